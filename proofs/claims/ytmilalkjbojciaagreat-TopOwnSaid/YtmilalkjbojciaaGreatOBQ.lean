/- Part BQ: what it needs. No condition. -/
import Derived.Test.YtmilalkjbojciaaGreatOAA
import Derived.Test.YtmilalkjbojciaaGreatOBM
import Derived.Test.YtmilalkjbojciaaGreatOBO
import Derived.Test.YtmilalkjbojciaaGreatOBP
import Derived.Test.YtmilalkjbojciaaGreatOBG
import Derived.Test.YtmilalkjbojciaaGreatOBN
set_option maxRecDepth 100000
set_option maxHeartbeats 8000000
open Go.Proofs.Tryz
namespace Go.Proofs.YtmilalkjbojciaaGreat.Sep
open Go.RowKit Reg Oct
open Mem hiding Rd
def vE:Ty Nat where
 val g:=pt g
 size:=1
 bytes:=8
 tid:=122
 zero:=.pointer none
 hlen _:=rfl
 lJ a u h:=by simp[Value.cells] at h;subst h;rfl
 gL:=by decide
 hzero:=rfl
 fW:=by kernel_rfl
 nR:=.inr ⟨by kernel_rfl,λ_=>rfl⟩
instance:kQ 122 Nat vE:=⟨rfl⟩
instance:lL vE 8:=⟨rfl⟩
instance:cL 121 [.pointer none,.pointer none,.int .i64 0,.slice none 0 0,.int .i64 0,.int .i64 0,.int .i64 0,.int .i64 0,.int .i64 0,.slice none 0 0,.int .i64 0] [(0,4),(4,5),(9,1),(10,1)]:=⟨⟨by kernel_rfl,by kernel_rfl⟩⟩
instance:cL 118 [.pointer none,.pointer none,.int .i64 0,.slice none 0 0] [(0,1),(1,1),(2,1),(3,1)]:=⟨⟨by kernel_rfl,by kernel_rfl⟩⟩
structure AM where
 gw:Nat
 gg:Nat
 sA:Option Addr
 sc:Nat
 nA:Option Addr
 nc:Nat
 gs:List Nat
abbrev wC(x:AM)(now:Int)(sn:Nat)(cf:fU)(nn:Nat)(sub:Int):List Value:=[pt x.gw,pt x.gg,.int .i64 now,.slice x.sA sn x.sc,.int .i64 cf.bN,.int .i64 cf.eF,.int .i64 cf.dC,.int .i64 cf.base,.int .i64 cf.cap,.slice x.nA nn x.nc,.int .i64 sub]
def jW(ws:List fD)(m:Mg):List fD×Int:=if m.check≠0 then(ws,0) else((zX ws ⟨m.to,m.enc,false⟩).1,if (zX ws ⟨m.to,m.enc,false⟩).2 then 1 else 0)
def DB(m:Mg):Mg:=⟨4,9,m.fr,0,0,0,0,0,[],[],m.key,ez⟩
section
variable (E:Env) (g:Nat) (x:AM) (now:Int) (sn:Nat) (cf:fU) (nn:Nat) (sub:Int) (ws:List fD)
theorem BV(m:Mg)(A:Option Addr)(n c:Nat)(B:Option Addr)(k d:Nat)(hI:Rd E fN A n c m.ids)(hC:Rd E bE B k d m.iS):G E 113 [pt g,.agg (oK m A n c B k d).toArray] [aJ g 121 (wC x now sn cf nn sub),aZ x.gw ws] (cM (.int .i64 (jW ws m).2) [aJ g 121 (wC x now sn cf nn sub),aZ x.gw (jW ws m).1]):=by
 unfold jW;by_cases hc:m.check=0
 ·rw[if_neg (by rw[hc];decide)];have hsz:=Mg.size hc;have put:=λE' hI hC=>KQ (E:=E') (m:=m) (A:=A) (n:=n) (c:=c) (B:=B) (k:=k) (d:=d) hI hC hc;have wp:=λE' X nx cx hr hnx=>TO E' x.gw ws m.to X nx cx m.enc hr hnx;generalize zX ws ⟨m.to,m.enc,false⟩=r at *;obtain⟨ws',ok⟩:=r;dsimp only at wp⊢;cases ok with
  |true =>
   refine t_ func113 ntmps113 ?_;repeat first|refine v_ ?_|intro
   refine C1 put ?_;rintro e H' ⟨O,oc,rfl,rfl⟩;repeat first|refine v_ ?_|intro
   rename_i g3;refine rB (l_ [0,1,2,3,4,5,6,7,8,9] (g_ 10 (l_ [11,12] .nil))) ([aJ g 121 _,aJ g3 195 _]) ?_;repeat first|refine v_ ?_|intro
   refine Ib (λ(E':Env) h1=>wp E' O (m.body.length+7) oc h1 (by omega)) ?_;repeat first|refine v_ ?_|intro
   exact e1_
  |false =>
   refine t_ func113 ntmps113 ?_;repeat first|refine v_ ?_|intro
   refine C1 put ?_;rintro e H' ⟨O,oc,rfl,rfl⟩;repeat first|refine v_ ?_|intro
   rename_i g3;refine rB (l_ [0,1,2,3,4,5,6,7,8,9] (g_ 10 (l_ [11,12] .nil))) ([aJ g 121 _,aJ g3 195 _]) ?_;repeat first|refine v_ ?_|intro
   refine Ib (λ(E':Env) h1=>wp E' O (m.body.length+7) oc h1 (by omega)) ?_;repeat first|refine v_ ?_|intro
   exact e1_
 ·rw[if_pos hc];have put:=λE' hI hC=>Ks (E:=E') (m:=m) (A:=A) (n:=n) (c:=c) (B:=B) (k:=k) (d:=d) hI hC hc;refine t_ func113 ntmps113 ?_;repeat first|refine v_ ?_|intro
  refine DY put ?_;repeat first|refine v_ ?_|intro
  rename_i g3;refine rB (l_ [0,1,2,3,4,5,6,7,8,9] (g_ 10 (l_ [11,12] .nil))) ([aJ g 121 _,aJ g3 195 _]) ?_;repeat first|refine v_ ?_|intro
  exact e1_
end
section
variable (E:Env) (g:Nat) (x:AM) (now:Int) (sn:Nat) (cf:fU) (nn:Nat) (sub:Int) (ws:List fD)
theorem tD(e:Int):G E 50 [.int .i64 e] [] (cM (.agg (⟨e,0,0⟩:wM).cs.toArray) []):=by
 refine t_ func50 ntmps50 ?_;repeat first|refine v_ ?_|intro
 exact e5_
theorem Ix(hb:gE E g (wC x now sn cf nn sub))(hn:nn≤4):G E 49 [pt g] [] (cM (.bool (decide ((0:Int)<nn))) []):=by
 refine t_ func49 ntmps49 ?_;repeat first|refine v_ ?_|intro
 exact e1_
theorem EN(r:Int)(hb:gE E g (wC x now sn cf nn sub))(hn:nn≤4)(h1:1≤nn)(hr:r<0∨(nn:Int)≤r):G E 52 [pt g,.int .i64 r] [] (cM (.pointer none) []):=by
 have his:=λE' hb=>Ix E' g x now sn cf nn sub hb hn;rw[decide_eq_true o_] at his;have hd:decide (0≤r∧r≤(nn:Int) - 1)=false:=decide_eq_false o_;refine t_ func52 ntmps52 ?_;repeat first|refine v_ ?_|intro
 refine eV his ?_;repeat first|refine v_ ?_|intro
 exact e1_
theorem qW(r:Nat)(gr:Nat)(hb:gE E g (wC x now sn cf nn sub))(hn:nn≤4)(hG:Rd E vE x.nA nn x.nc x.gs)(hr:x.gs[r]?=some gr):G E 52 [pt g,.int .i64 r] [] (cM (pt gr) []):=by
 have hl:=hG.len;have hlt:=(aAd.1 hr).1;have his:=λE' hb=>Ix E' g x now sn cf nn sub hb hn;rw[decide_eq_true o_] at his;have hd:decide (0≤(r:Int)∧(r:Int)≤(nn:Int) - 1)=true:=decide_eq_true o_;refine t_ func52 ntmps52 ?_;repeat first|refine v_ ?_|intro
 refine eV his ?_;repeat first|refine v_ ?_|intro
 exact e1_
end
def gG(ws:List fD)(r:Int)(l:List dK)(m:Mg):(List fD×Int×List dK)×Int :=
 if (L8 r l ⟨m.key,m.bC⟩).2 then(((jW ws (DB m)).1,(L8 r l ⟨m.key,m.bC⟩).1.1,(L8 r l ⟨m.key,m.bC⟩).1.2),(jW ws (DB m)).2) else((ws,(L8 r l ⟨m.key,m.bC⟩).1.1,(L8 r l ⟨m.key,m.bC⟩).1.2),0)
def uD(now n:Int):Int×wM:=if (1≤n∧n≤1000)∧now+n≤1073741824 then(now+n,⟨0,now+n,0⟩) else(now,⟨4,0,0⟩)
def kA(sub:Int)(n:Nd)(c:aX):Int×Nd×wM :=
 if 48≤sub then(sub,n,⟨3,0,0⟩)
 else if (n.fC c).2.2≠0 then(sub,(n.fC c).1,⟨(n.fC c).2.2,0,0⟩)
 else(sub+1,(n.fC c).1,⟨0,(n.fC c).2.1.id.seq,(cE (n.fC c).1.s.v (n.fC c).2.1.id).1.code⟩)
theorem NI{n:Nd}{c:aX}(h:(n.fC c).2.2=0):(n.fC c).1.up=true:=by
 unfold Nd.fC at h⊢;split at h
 ·rename_i hu;rw[if_pos hu];split at h
  ·rename_i h1;rw[if_pos h1];split
   ·rw[qU];exact hu
   ·rw[qU];exact hu
  ·rename_i h1;rw[if_neg h1];exact hu
 ·cases h
section
variable (E:Env) (P:List Ov) (g:Nat) (x:AM) (now:Int) (sn:Nat) (cf:fU) (nn:Nat) (sub:Int) (ws:List fD)
theorem LJ(r:Int)(l:List dK)(hl:l.length≤1000000)(m:Mg)(A:Option Addr)(n c:Nat)(B:Option Addr)(k d:Nat):G E 122 [pt g,.agg (oK m A n c B k d).toArray] [aJ g 121 (wC x now sn cf nn sub),aZ x.gw ws,cK x.gg r l] (cM (.int .i64 (gG ws r l m).2) [aJ g 121 (wC x now sn cf nn sub),aZ x.gw (gG ws r l m).1.1,cK x.gg (gG ws r l m).1.2.1 (gG ws r l m).1.2.2]):=by
 have gdo:=λE'=>Yg E' x.gg r l ⟨m.key,m.bC⟩ hl;have post:=λE'=>BV E' g x now sn cf nn sub ws (DB m) none 0 0 none 0 0 (Rd.nil _ _) (Rd.nil _ _);unfold gG;generalize L8 r l ⟨m.key,m.bC⟩=q at *;generalize jW ws (DB m)=p at *;obtain⟨⟨r',l'⟩,ok⟩:=q;obtain⟨ws',a⟩:=p;dsimp only at gdo post⊢;cases ok with
 |true =>
  simp only[if_true];refine t_ func122 ntmps122 ?_;repeat first|refine v_ ?_|intro
  rename_i g3;refine rB (l_ [0,1,2,3,4,5,6,7,8] (g_ 9 (n_ 10 .nil))) ([aJ g 121 _,aJ g3 195 _]) ?_;repeat first|refine v_ ?_|intro
  refine eJ gdo ?_;repeat first|refine v_ ?_|intro
  refine bK post ?_;repeat first|refine v_ ?_|intro
  exact e1_
 |false =>
  simp only[aCb,if_false];refine t_ func122 ntmps122 ?_;repeat first|refine v_ ?_|intro
  rename_i g3;refine rB (l_ [0,1,2,3,4,5,6,7,8] (g_ 9 (n_ 10 .nil))) ([aJ g 121 _,aJ g3 195 _]) ?_;repeat first|refine v_ ?_|intro
  refine eJ gdo ?_;repeat first|refine v_ ?_|intro
  exact e1_
theorem U8(n:Int)(hn:0≤now∧now≤1073741824):G E 58 [pt g,.int .i64 n] [aJ g 121 (wC x now sn cf nn sub)] (cM (.agg (uD now n).2.cs.toArray) [aJ g 121 (wC x (uD now n).1 sn cf nn sub)]):=by
 have fl:=λE'=>tD E' 4;unfold uD;by_cases h:(1≤n∧n≤1000)∧now+n≤1073741824
 ·rw[if_pos h];have hd:decide (1≤n∧n≤1000)=true:=decide_eq_true h.1;have hlt:=h.2;refine t_ func58 ntmps58 ?_;repeat first|refine v_ ?_|intro
  exact e5_
 ·rw[if_neg h];by_cases h1:1≤n∧n≤1000
  ·have hd:decide (1≤n∧n≤1000)=true:=decide_eq_true h1;have hgt:1073741824<now+n:=by omega
   refine t_ func58 ntmps58 ?_;repeat first|refine v_ ?_|intro
   refine bK fl ?_;repeat first|refine v_ ?_|intro
   exact e5_
  ·have hd:decide (1≤n∧n≤1000)=false:=decide_eq_false h1;refine t_ func58 ntmps58 ?_;repeat first|refine v_ ?_|intro
   refine bK fl ?_;repeat first|refine v_ ?_|intro
   exact e5_
end
section
variable (E:Env) (P:List Ov) (g gr:Nat) (x:AM) (now:Int) (sn:Nat) (cf:fU) (nn:Nat) (sub:Int) (n:Nd) (k:Int)
theorem Pf(c:aX)(hc:dQ c.n)(hs:0≤sub∧sub≤48):G E 53 [pt g,pt gr,.agg c.cs.toArray] [aJ g 121 (wC x now sn cf nn sub),bZ P gr cf n k,aI P] λe H'=>∃Q,e=.returned (.agg (kA sub n c).2.2.cs.toArray)∧H'=[aJ g 121 (wC x now sn cf nn (kA sub n c).1),bZ (P++Q) gr cf (kA sub n c).2.1 k,aI (P++Q)]:=by
 have fl:=λE' e=>tD E' e;have sb:=λE'=>TN E' P gr cf n k c hc;have mono0:cA [bZ P gr cf n k,aI P] [bZ (P++[]) gr cf n k,aI (P++[])]:=by rw[aAc];exact cA.refl
 have hup:=λh=>NI (n:=n) (c:=c) h;unfold kA;by_cases h48:48≤sub
 ·rw[if_pos h48];refine t_ func53 ntmps53 ?_;repeat first|refine v_ ?_|refine Dr.two ?_ ?_|intro
  refine bK (λ(E':Env)=>fl E' 3) ?_;repeat first|refine v_ ?_|refine Dr.two ?_ ?_|intro
  exact cI (H':=[aJ g 121 (wC x now sn cf nn sub),bZ (P++[]) gr cf n k,aI (P++[])]) rfl aF rfl rfl rfl aS rfl (by rw[aAc];exact aA) ⟨[],rfl,rfl⟩
 ·rw[if_neg h48];generalize n.fC c=res at *;obtain⟨n2,c2,code⟩:=res;dsimp only at sb hup⊢;by_cases h0:code=0
  ·subst h0;rw[if_neg sD];have hu:=hup rfl;refine t_ func53 ntmps53 ?_;repeat first|refine v_ ?_|refine Dr.two ?_ ?_|intro
   refine bW sb ?_;rintro e H' ⟨Q,rfl,rfl⟩;repeat first|refine v_ ?_|refine Dr.two ?_ ?_|intro
   rename_i g5 g6;have st:=λE'=>wW E' (P++Q) gr cf n2 k;simp only[hu,if_true] at st;refine C.BI (X:=Ov×Nat) (λy=>[(5,pt g5),(6,pt g6),(8,pt y.2)]) (λy=>[aJ y.2 141 y.1.cs,aJ g5 34 c2.cs,aJ g6 36 CQ.cs,aJ g 121 (wC x now sn cf nn (sub+1)),bZ (P++Q) gr cf n2 k,aI (P++Q)]) (λy=>y.1.d=(cE n2.s.v c2.id).1) ?_ ?_
   ·refine rB (l_ [0,3,4] (.two 1 (.two 2 (.two 5 (l_ [6,7,8,9] (g_ 10 (g_ 11 (l_ [12,13] .nil)))) 10 (g_ 5 (l_ [6,7,8,9] (g_ 11 (l_ [12,13] .nil))))) 10 (g_ 2 (g_ 5 (l_ [6,7,8,9] (g_ 11 (l_ [12,13] .nil)))))) 10 (g_ 1 (g_ 2 (g_ 5 (l_ [6,7,8,9] (g_ 11 (l_ [12,13] .nil)))))))) ([aJ g5 34 _]) ?_;repeat first|refine v_ ?_|intro
    refine Dr.two ?_ ?_
    ·refine yB rfl sD bA sK aC (λE' hE=>st E') ?_;rintro e H' ⟨gs,rfl,rfl⟩;repeat first|refine v_ ?_|intro
     refine Dr.two ?_ ?_
     ·refine yB rfl sD bA sK aC (λE' hE=>qQ E' (P++Q) gs n2.s) ?_;rintro e H' ⟨gl,rfl,rfl⟩;repeat first|refine v_ ?_|intro
      refine Dr.two ?_ ?_
      ·refine yB rfl sD bA sK aC (λE' hE=>yL E' (P++Q) gl n2.s.v c2.id) ?_;rintro e H' ⟨o,ho,rfl,rfl⟩;repeat first|refine cY ?_|intro
       rename_i g8;exact⟨(o,g8),aD,aA,ho⟩
      ·repeat first|refine cY ?_|intro
       refine iO (λ(E':Env)=>yL E' (P++Q) gl n2.s.v c2.id) ?_;rintro e H' ⟨o,ho,rfl,rfl⟩;repeat first|refine cY ?_|intro
       rename_i g8;exact⟨(o,g8),aD,aA,ho⟩
     ·repeat first|refine cY ?_|intro
      refine iO (λ(E':Env)=>qQ E' (P++Q) gs n2.s) ?_;rintro e H' ⟨gl,rfl,rfl⟩;repeat first|refine cY ?_|intro
      refine iO (λ(E':Env)=>yL E' (P++Q) gl n2.s.v c2.id) ?_;rintro e H' ⟨o,ho,rfl,rfl⟩;repeat first|refine cY ?_|intro
      rename_i g8;exact⟨(o,g8),aD,aA,ho⟩
    ·repeat first|refine cY ?_|intro
     refine iO st ?_;rintro e H' ⟨gs,rfl,rfl⟩;repeat first|refine cY ?_|intro
     refine iO (λ(E':Env)=>qQ E' (P++Q) gs n2.s) ?_;rintro e H' ⟨gl,rfl,rfl⟩;repeat first|refine cY ?_|intro
     refine iO (λ(E':Env)=>yL E' (P++Q) gl n2.s.v c2.id) ?_;rintro e H' ⟨o,ho,rfl,rfl⟩;repeat first|refine cY ?_|intro
     rename_i g8;exact⟨(o,g8),aD,aA,ho⟩
   ·rintro⟨o,g8⟩ F ho;dsimp only at ho⊢;have hco:(cE n2.s.v c2.id).1.code=o.code:=by rw[←ho];rfl
    rw[hco];repeat first|refine v_ ?_|refine Dr.two ?_ ?_|intro
    exact cI rfl aF rfl rfl rfl aS rfl aA (⟨Q,rfl,rfl⟩)
  ·rw[if_pos h0];refine t_ func53 ntmps53 ?_;repeat first|refine v_ ?_|refine Dr.two ?_ ?_|intro
   refine bW sb ?_;rintro e H' ⟨Q,rfl,rfl⟩;repeat first|refine v_ ?_|refine Dr.two ?_ ?_|intro
   refine bK (λ(E':Env)=>fl E' code) ?_;repeat first|refine v_ ?_|refine Dr.two ?_ ?_|intro
   exact cI rfl aF rfl rfl rfl aS rfl aA (⟨Q,rfl,rfl⟩)
end
def yI(nn:Nat)(ws:List fD)(n:Nd)(st:cH):(List fD×Nd)×wM :=
 if (st.i<0∨(nn:Int)≤st.i)∨st.i=st.r then((ws,n),⟨4,0,0⟩)
 else if n.sync.2≠0 then((ws,n.sync.1),⟨n.sync.2,0,0⟩)
 else(((jW ws (Ll n.sync.1.s st.i)).1,n.sync.1),⟨0,(jW ws (Ll n.sync.1.s st.i)).2,0⟩)
theorem J3{n:Nd}(h:n.sync.2=0):n.sync.1.up=true:=by
 unfold Nd.sync at h⊢;split at h
 ·rename_i hu;rw[if_pos hu];split at h
  ·rename_i h1;rw[if_pos h1]
  ·cases h
 ·cases h
section
variable (E:Env) (P:List Ov) (g gr:Nat) (x:AM) (now:Int) (sn:Nat) (cf:fU) (nn:Nat) (sub:Int) (n:Nd) (k:Int) (ws:List fD)
theorem Xw(st:cH)(hn:nn≤4)(h1:1≤nn)(hk:k≤10000000000000)(hgs:x.gs.length=nn):G E 55 [pt g,pt gr,.agg st.cs.toArray] [aJ g 121 (wC x now sn cf nn sub),bZ P gr cf n k,aZ x.gw ws,own vE x.nA nn x.nc x.gs] (cM (.agg (yI nn ws n st).2.cs.toArray) [aJ g 121 (wC x now sn cf nn sub),bZ P gr cf (yI nn ws n st).1.2 (k+2048),aZ x.gw (yI nn ws n st).1.1,own vE x.nA nn x.nc x.gs]):=by
 have fl:=λE' e=>tD E' e;have sy:=λE'=>KU E' P gr cf n k hk;have hup:=J3 (n:=n);have mono:cA [bZ P gr cf n k] [bZ P gr cf n (k+2048)]:=by
  have:=bZ.mono (P:=P) (Q:=[]) (g:=gr) (cf:=cf) (n:=n) (show k≤k+2048 by omega);rw[aAc] at this;exact this
 unfold yI;by_cases hr:st.i<0∨(nn:Int)≤st.i
 ·rw[if_pos (.inl hr)];have atn:=λE' hb=>EN E' g x now sn cf nn sub st.i hb hn h1 hr;refine t_ func55 ntmps55 ?_;repeat first|refine v_ ?_|intro
  refine eV atn ?_;repeat first|refine v_ ?_|intro
  refine bK (λ(E':Env)=>fl E' 4) ?_;repeat first|refine v_ ?_|intro
  exact cI (H':=[aJ g 121 (wC x now sn cf nn sub),bZ P gr cf n (k+2048),aZ x.gw ws,own vE x.nA nn x.nc x.gs]) rfl aF rfl rfl rfl aS rfl (aB.trans (aB.imp mono aC) aA) ⟨rfl,rfl⟩
 ·obtain⟨kd,rr,ii,nm,cc⟩:=st;dsimp only at hr⊢;obtain⟨j,rfl⟩:=aCf (show 0≤ii by omega);have hlt:j<x.gs.length:=by omega
  have aty:=λE' hb hG=>qW E' g x now sn cf nn sub j (x.gs[j]'hlt) hb hn hG (aAa hlt);generalize x.gs[j]'hlt=gj at aty;by_cases he:(j:Int)=rr
  ·rw[if_pos (.inr he)];refine t_ func55 ntmps55 ?_;repeat first|refine v_ ?_|intro
   refine DY aty ?_;repeat first|refine v_ ?_|intro
   refine bK (λ(E':Env)=>fl E' 4) ?_;repeat first|refine v_ ?_|intro
   exact cI (H':=[aJ g 121 (wC x now sn cf nn sub),bZ P gr cf n (k+2048),aZ x.gw ws,own vE x.nA nn x.nc x.gs]) rfl aF rfl rfl rfl aS rfl (aB.trans (aB.imp mono aC) aA) ⟨rfl,rfl⟩
  ·rw[if_neg o_];clear mono;generalize n.sync=res at *;obtain⟨n2,code⟩:=res;dsimp only at sy hup⊢;by_cases h0:code=0
   ·subst h0;rw[if_neg sD];have hu:=hup rfl;have st2:=λE'=>wW E' P gr cf n2 (k+2048);simp only[hu,if_true] at st2;have post:=λE'=>BV E' g x now sn cf nn sub ws (Ll n2.s j) none 0 0 none 0 0 (Rd.nil _ _) (Rd.nil _ _);generalize jW ws (Ll n2.s j)=p at *;obtain⟨ws2,a⟩:=p;dsimp only at post⊢;refine t_ func55 ntmps55 ?_;repeat first|refine v_ ?_|intro
    refine DY aty ?_;repeat first|refine v_ ?_|intro
    refine bK sy ?_;repeat first|refine v_ ?_|intro
    rename_i g5 g6;refine rB (l_ [0,1,2,3,5,6] (g_ 4 (g_ 7 (g_ 8 (n_ 9 (g_ 10 .nil)))))) ([aJ g5 39 _]) ?_;repeat first|refine v_ ?_|intro
    refine iO st2 ?_;rintro e H' ⟨gs,rfl,rfl⟩;repeat first|refine v_ ?_|intro
    refine eJ (λ(E':Env)=>Zf E' P gs n2.s j) ?_;repeat first|refine v_ ?_|intro
    refine eJ post ?_;repeat first|refine v_ ?_|intro
    exact e5_
   ·rw[if_pos h0];refine t_ func55 ntmps55 ?_;repeat first|refine v_ ?_|intro
    refine DY aty ?_;repeat first|refine v_ ?_|intro
    refine bK sy ?_;repeat first|refine v_ ?_|intro
    refine bK (λ(E':Env)=>fl E' code) ?_;repeat first|refine v_ ?_|intro
    exact e5_
end
def AI:Nat→Nd→Nat→Nd×wM
 |0,n,i=>(n,⟨0,i,0⟩)
 |k+1,n,i=>match n.s.v.t[0]? with
  |none=>(n,⟨0,i,0⟩)
  |some c=>if (n.take [.rI c.id]).2.2=0 then AI k (n.take [.rI c.id]).1 (i+1) else((n.take [.rI c.id]).1,⟨(n.take [.rI c.id]).2.2,i,0⟩)
def mT(n:Nd)(dC:Int):Nd×wM:=if 1≤dC∧dC≤16 then(if n.up then AI dC.toNat n 0 else(n,⟨19,0,0⟩)) else(n,⟨4,0,0⟩)
theorem Gn:∀(l:List Rc) (n:Nd) (i:Nat),(n.AQ l i).1.up=n.up
 | [],_,_=>rfl
 |x::l,n,i=>by
  unfold Nd.AQ;split
  ·rw[Gn l,qU]
  ·exact qU n x
theorem Rh(n:Nd)(l:List Rc):(n.take l).1.up=n.up:=by
 unfold Nd.take;split
 ·exact Gn l n 0
 ·rfl
section
variable (E:Env) (P:List Ov) (g gr:Nat) (x:AM) (now:Int) (sn:Nat) (cf:fU) (nn:Nat) (sub:Int) (n:Nd) (k:Int)
theorem Ol(dC:Int)(_hn:nn≤4)(_h1:1≤nn)(hgs:x.gs[0]?=some gr):G E 56 [pt g,.int .i64 dC] [aJ g 121 (wC x now sn cf nn sub),bZ P gr cf n k,own vE x.nA nn x.nc x.gs,aI P] λe H'=>∃Q,e=.returned (.agg (mT n dC).2.cs.toArray)∧H'=[aJ g 121 (wC x now sn cf nn sub),bZ (P++Q) gr cf (mT n dC).1 k,own vE x.nA nn x.nc x.gs,aI (P++Q)]:=by
 have fl:=λE' e=>tD E' e;unfold mT;by_cases hm:1≤dC∧dC≤16
 ·rw[if_pos hm];have hd:decide (1≤dC∧dC≤16)=true:=decide_eq_true hm;obtain⟨m,rfl⟩:=aCf (show 0≤dC by omega);have up:=λE'=>TI E' P gr cf n k;by_cases hu:n.up=true
  ·rw[if_pos hu];rw[hu] at up;rw[aAu];refine t_ func56 ntmps56 ?_;repeat first|refine v_ ?_|intro
   refine bK up ?_;repeat first|refine v_ ?_|intro
   rename_i g4;refine C.scan (Y:=Nd×List Ov) (l:=List.range m) (show m=(List.range m).length by rw[aFu]) (λi y=>[(1,.int .i64 m),(4,pt g4),(5,pt gr),(25,.int .i64 m),(26,.int .i64 i)])
    (λi y=>[aJ g4 36 CQ.cs,aJ g 121 (wC x now sn cf nn sub),bZ (P++y.2) gr cf y.1 k,own vE x.nA nn x.nc x.gs,aI (P++y.2)]) (λi y=>y.1.up=true∧AI m n 0=AI (m - i) y.1 i) (n,[]) aD (by dsimp only;rw[aAc];exact aA) ⟨hu,rfl⟩ ?_ ?_
   ·rintro i ⟨n2,Q⟩ j F hi hj ⟨hu2,hc⟩;dsimp only at hu2 hc⊢;have st:=λE'=>wW E' (P++Q) gr cf n2 k;simp only[hu2,if_true] at st;have hlt:i<m:=by have:=(aAd.1 hj).1;rwa [aFu] at this
    obtain⟨q,hq⟩:∃q,m - i=q+1:=⟨m - i - 1,by omega⟩
    rw[hq,AI] at hc;have fst:=λE' gl=>Ub E' (P++Q) gl n2.s.v;cases ht:n2.s.v.t with
    |nil =>
     rw[ht] at hc fst;simp only[List.getElem?_nil] at hc;rw[hc];repeat first|refine v_ ?_|intro
     refine bW st ?_;rintro e H' ⟨gs,rfl,rfl⟩;repeat first|refine v_ ?_|intro
     refine bW (λ(E':Env)=>qQ E' (P++Q) gs n2.s) ?_;rintro e H' ⟨gl,rfl,rfl⟩;repeat first|refine v_ ?_|intro
     refine bK (λ(E':Env)=>fst E' gl) ?_;repeat first|refine v_ ?_|intro
     exact cI rfl aF rfl rfl rfl aS rfl aA (⟨Q,rfl,rfl⟩)
    |cons c t =>
     rw[ht] at hc fst;simp only[List.getElem?_cons_zero,aBe] at hc fst;have tk:=λE' A c2 (hr:Rd E' jE A 1 c2 [⟨2,mW,c.id,zR,0⟩])=>QP E' (P++Q) gr cf n2 k A 1 c2 [.rI c.id] hr (by simp[Rc.ok]) o_;have hu3:=Rh n2 [.rI c.id];generalize n2.take [.rI c.id]=res at *;obtain⟨n3,z,code⟩:=res;dsimp only at hc tk hu3;by_cases h0:code=0
     ·subst h0;rw[if_pos rfl] at hc;repeat first|refine v_ ?_|intro
      refine bW st ?_;rintro e H' ⟨gs,rfl,rfl⟩;repeat first|refine v_ ?_|intro
      refine bW (λ(E':Env)=>qQ E' (P++Q) gs n2.s) ?_;rintro e H' ⟨gl,rfl,rfl⟩;repeat first|refine v_ ?_|intro
      refine bK (λ(E':Env)=>fst E' gl) ?_;repeat first|refine v_ ?_|intro
      refine bK (λ(E':Env)=>oS E' c.id) ?_;repeat first|refine v_ ?_|intro
      refine dX (λ(E':Env)=>tk E' _ _) ?_;rintro e H' ⟨Q2,rfl,rfl⟩;repeat first|refine v_ ?_|intro
      exact⟨(n3,Q++Q2),aD,(by dsimp only;rw[←aAb];exact aA),hu3.trans hu2,by rw[show m - (i+1)=q by omega];exact hc⟩
     ·rw[if_neg h0] at hc;rw[hc];repeat first|refine v_ ?_|intro
      refine bW st ?_;rintro e H' ⟨gs,rfl,rfl⟩;repeat first|refine v_ ?_|intro
      refine bW (λ(E':Env)=>qQ E' (P++Q) gs n2.s) ?_;rintro e H' ⟨gl,rfl,rfl⟩;repeat first|refine v_ ?_|intro
      refine bK (λ(E':Env)=>fst E' gl) ?_;repeat first|refine v_ ?_|intro
      refine bK (λ(E':Env)=>oS E' c.id) ?_;repeat first|refine v_ ?_|intro
      refine dX (λ(E':Env)=>tk E' _ _) ?_;rintro e H' ⟨Q2,rfl,rfl⟩;repeat first|refine v_ ?_|intro
      exact cI (H':=[aJ g 121 (wC x now sn cf nn sub),bZ (P++(Q++Q2)) gr cf n3 k,own vE x.nA nn x.nc x.gs,aI (P++(Q++Q2))]) rfl aF rfl rfl rfl aS rfl (by rw[←aAb];exact aA) ⟨Q++Q2,rfl,rfl⟩
   ·rintro⟨n2,Q⟩ F ⟨hu2,hc⟩;dsimp only at hu2 hc⊢;rw[aEi,AI] at hc;rw[hc];repeat first|refine v_ ?_|intro
    exact cI rfl aF rfl rfl rfl aS rfl aA (⟨Q,rfl,rfl⟩)
  ·rw[if_neg hu];rw[Bool.eq_false_iff.2 hu] at up;refine t_ func56 ntmps56 ?_;repeat first|refine v_ ?_|intro
   refine bK up ?_;repeat first|refine v_ ?_|intro
   refine bK (λ(E':Env)=>fl E' 19) ?_;repeat first|refine v_ ?_|intro
   exact cI (H':=[aJ g 121 (wC x now sn cf nn sub),bZ (P++[]) gr cf n k,own vE x.nA nn x.nc x.gs,aI (P++[])]) rfl aF rfl rfl rfl aS rfl (by rw[aAc];exact aA) ⟨[],rfl,rfl⟩
 ·rw[if_neg hm];have hd:decide (1≤dC∧dC≤16)=false:=decide_eq_false hm;refine t_ func56 ntmps56 ?_;repeat first|refine v_ ?_|intro
  refine bK (λ(E':Env)=>fl E' 4) ?_;repeat first|refine v_ ?_|intro
  exact cI (H':=[aJ g 121 (wC x now sn cf nn sub),bZ (P++[]) gr cf n k,own vE x.nA nn x.nc x.gs,aI (P++[])]) rfl aF rfl rfl rfl aS rfl (by rw[aAc];exact aA) ⟨[],rfl,rfl⟩
end
def Vl(r:Int)(q:dK):Mg:=⟨3,r,9,0,0,0,0,0,[],[],q.key,q.bC⟩
def CC(r now:Int)(z:List fD×List fM)(q:dK):List fD×List fM:=((jW z.1 (Vl r q)).1,z.2++[⟨r,now,q.key,q.bC⟩])
def jN(r now:Int)(ws:List fD)(aW:List fM)(l:List dK):List fD×List fM:=l.foldl (CC r now) (ws,aW)
theorem En{r now:Int}{ws:List fD}{aW:List fM}{l:List dK}{i:Nat}{q:dK}(h:l[i]?=some q):jN r now ws aW (l.take (i+1))=CC r now (jN r now ws aW (l.take i)) q:=iX h
theorem AV(r now:Int)(ws:List fD)(aW:List fM)(l:List dK):(jN r now ws aW l).2.length=aW.length+l.length:=by
 have:∀(l:List dK) (z:List fD×List fM),(l.foldl (CC r now) z).2.length=z.2.length+l.length:=by
  intro l
  induction l with
  |nil=>exact λz=>rfl
  |cons q l ih=>intro z;rw[aFj,ih];unfold CC;simp;omega
 exact this l (ws,aW)
theorem De(now:Int):∀(l:List dK) (n:Nd) (acc:List dK),(n.tries now l acc).2.1.length≤acc.length+l.length
 | [],_,acc=>by unfold Nd.tries;simp
 |q::l,n,acc=>by
  unfold Nd.tries;split
  ·refine aBw (De now l _ _) ?_;simp;omega
  ·simp
theorem HY{n:Nd}(h:n.ok)(cf:fU)(now:Int):(n.qD cf now).2.1.length≤48:=by
 unfold Nd.qD;split
 ·rename_i hu;have hnp:=(h.gd hu).1.np;have hrl:=D8 n.s cf now;split
  ·have:=De now (n.s.ready cf now) n [];simp at this;dsimp only;omega
  ·exact aAh _
 ·exact aAh _
def oO(cf:fU)(now:Int)(ws:List fD)(aW:List fM)(n:Nd)(r:Int):(List fD×List fM×Nd)×wM :=
 (((jN r now ws aW (n.qD cf now).2.1).1,(jN r now ws aW (n.qD cf now).2.1).2,(n.qD cf now).1),⟨(n.qD cf now).2.2,(n.qD cf now).2.1.length,0⟩)
section
variable (E:Env) (P:List Ov) (g gr:Nat) (x:AM) (now:Int) (cf:fU) (nn:Nat) (sub:Int) (n:Nd) (k:Int) (ws:List fD) (aW:List fM)
theorem Uh(r:Int)(hnow:dQ now)(hk:k≤10000000000000)(hsl:aW.length≤100000000):G E 57 [pt g,pt gr,.int .i64 r] [aJ g 121 (wC x now aW.length cf nn sub),bZ P gr cf n k,aZ x.gw ws,own mK x.sA aW.length x.sc aW,aI P] λe H'=>∃Q sA sc,e=.returned (.agg (oO cf now ws aW n r).2.cs.toArray)∧H'=[aJ g 121 (wC ⟨x.gw,x.gg,sA,sc,x.nA,x.nc,x.gs⟩ now (oO cf now ws aW n r).1.2.1.length cf nn sub),bZ (P++Q) gr cf (oO cf now ws aW n r).1.2.2 (k+2048),aZ x.gw (oO cf now ws aW n r).1.1,own mK sA (oO cf now ws aW n r).1.2.1.length sc (oO cf now ws aW n r).1.2.1,aI (P++Q)]:=by
 refine aK.Y1 (p:=λ_:Nh=>n.ok) (l:=O4 P gr cf n k) (Has.aM Has.aN) λ⟨_,hok⟩=>?_;have hpl:=HY hok cf now;have pmp:=λE'=>YJ E' P gr cf n k now hnow hk;unfold oO;generalize n.qD cf now=res at *;obtain⟨n2,reqs,code⟩:=res;dsimp only at hpl pmp⊢;refine t_ func57 ntmps57 ?_;repeat first|refine v_ ?_|intro
 refine bW pmp ?_;rintro e H' ⟨Q,A,m,c,hm,hmc,rfl,rfl⟩;repeat first|refine v_ ?_|intro
 rename_i g6;have hmax:=fX;refine C.scan (Y:=Option Addr×Nat) (l:=reqs) hm (λi y=>[(0,pt g),(2,.int .i64 r),(6,pt g6),(7,.slice A m c),(8,.int .i64 code),(21,.slice A m c),(22,.int .i64 m),(23,.int .i64 i)])
  (λi y=>[aJ g6 36 CQ.cs,own cP A m c reqs,aJ g 121 (wC ⟨x.gw,x.gg,y.1,y.2,x.nA,x.nc,x.gs⟩ now (jN r now ws aW (reqs.take i)).2.length cf nn sub),aZ x.gw (jN r now ws aW (reqs.take i)).1,own mK y.1 (jN r now ws aW (reqs.take i)).2.length y.2 (jN r now ws aW (reqs.take i)).2,bZ (P++Q) gr cf n2 (k+2048),aI (P++Q)]) (λ_ _=>True) (x.sA,x.sc) aD (by dsimp only[List.take_zero,jN,List.foldl_nil];exact aA) trivial ?_ ?_
 ·rintro i ⟨sA,sc⟩ q F hi hq -;dsimp only;have hlen:=AV r now ws aW (reqs.take i);rw[aAg] at hlen;rw[En hq];generalize jN r now ws aW (reqs.take i)=z at *;obtain⟨ws1,s1⟩:=z;dsimp only[CC] at hlen⊢;rw[aAe,aDa];have post:=λE'=>BV E' g ⟨x.gw,x.gg,sA,sc,x.nA,x.nc,x.gs⟩ now s1.length cf nn sub ws1 (Vl r q) none 0 0 none 0 0 (Rd.nil _ _) (Rd.nil _ _);generalize jW ws1 (Vl r q)=p at *;obtain⟨ws2,a⟩:=p;dsimp only at post⊢;repeat first|refine v_ ?_|intro
  rename_i g10;refine rB (l_ [0,1,2,3,4,5,6,7,8] (g_ 9 .nil)) ([aJ g 121 _,aJ g10 79 _]) ?_;repeat first|refine v_ ?_|intro
  refine eJ post ?_;repeat first|refine v_ ?_|intro
  refine C.bL 22 (l_ [0,1,2,3,4,5,6,7,8,9,10,11,12,13,14,15,16] (g_ 17 (g_ 18 (l_ [19,20,21] (g_ 22 .nil))))) ([aJ g 121 _,aJ g10 79 _]) q_ q_ aA ?_;repeat first|refine v_ ?_|intro
  refine Dr.Aw rfl (by rintro k ⟨⟩;decide) bA (S.QZ (T:=mK) (e1:=(⟨r,now,q.key,q.bC⟩:fM)) rfl eS rfl FV (by rfl) sD) ?_;rintro v H' ⟨gz,rfl,rfl⟩;refine⟨aA,?_⟩;repeat first|refine v_ ?_|intro
  rename_i sA' sc' h3 h4;exact⟨(sA',sc'),aD,aA,trivial⟩
 ·rintro⟨sA,sc⟩ F -;dsimp only;rw[hm,aAo];repeat first|refine v_ ?_|intro
  exact cI rfl aF rfl rfl rfl aS rfl aA (⟨Q,sA,sc,rfl,rfl⟩)
end
def ZW(ws:List fD)(i:Int):Int:=((xB ws i).map fD.to).getD (-1)
def FC(ws:List fD)(i:Int):Bool:=((xB ws i).map fD.broken).getD false
def NZ(ws:List fD)(i:Int):List fD:=match xB ws i with
 |none=>ws
 |some _=>cR ws i
def lP(ws:List fD)(st:cH):List fD×wM :=
 if ZW ws st.i<0 then(ws,⟨14,0,0⟩)
 else if st.kind=8 then(NZ ws st.i,⟨0,0,0⟩)
 else if st.kind=9 then((Co ws st.i).1,⟨if (Co ws st.i).2 then 0 else 10,0,0⟩)
 else if FC ws st.i then(ws,⟨9,0,0⟩)
 else((CU ws st.i st.n).1,⟨if (CU ws st.i st.n).2 then 0 else 4,0,0⟩)
section
variable (E:Env) (g:Nat) (x:AM) (now:Int) (sn:Nat) (cf:fU) (nn:Nat) (sub:Int) (ws:List fD)
theorem Md(st:cH)(hn:dQ st.n):G E 60 [pt g,.agg st.cs.toArray] [aJ g 121 (wC x now sn cf nn sub),aZ x.gw ws] (cM (.agg (lP ws st).2.cs.toArray) [aJ g 121 (wC x now sn cf nn sub),aZ x.gw (lP ws st).1]):=by
 have fl:=λE' e=>tD E' e;have to:=λE'=>JU E' x.gw ws st.i;have tk:=λE'=>vV E' x.gw ws st.i;have cp:=λE'=>Ui E' x.gw ws st.i;have br:=λE'=>O0 E' x.gw ws st.i;have fp:=λE'=>Vb E' x.gw ws st.i st.n hn;unfold lP NZ;rw[show((xB ws st.i).map fD.to).getD (-1)=ZW ws st.i from rfl] at to;rw[show((xB ws st.i).map fD.broken).getD false=FC ws st.i from rfl] at br;generalize ZW ws st.i=tov at *;generalize FC ws st.i=brv at *;generalize CU ws st.i st.n=flv at *;generalize Co ws st.i=cpv at *;by_cases h1:tov<0
 ·rw[if_pos h1];refine t_ func60 ntmps60 ?_;repeat first|refine v_ ?_|intro
  rename_i g3 g4;refine rB (l_ [0,1,2,3,4,5,6] (g_ 7 (n_ 8 .nil))) ([aJ g 121 _,aJ g3 39 _]) ?_;repeat first|refine v_ ?_|intro
  refine eJ to ?_;repeat first|refine v_ ?_|intro
  refine bK (λ(E':Env)=>fl E' 14) ?_;repeat first|refine v_ ?_|intro
  exact e5_
 ·rw[if_neg h1];by_cases h8:st.kind=8
  ·rw[if_pos h8];cases ha:xB ws st.i with
   |none =>
    rw[ha] at tk;refine t_ func60 ntmps60 ?_;repeat first|refine v_ ?_|intro
    rename_i g3 g4;refine rB (l_ [0,1,2,3,4,5,6] (g_ 7 (n_ 8 .nil))) ([aJ g 121 _,aJ g3 39 _]) ?_;repeat first|refine v_ ?_|intro
    refine eJ to ?_;repeat first|refine v_ ?_|intro
    refine rB (l_ [0,1,2,3,4,5,6] (g_ 7 .nil)) ([aJ g 121 _,aJ g3 39 _]) ?_;repeat first|refine v_ ?_|intro
    refine eJ tk ?_;repeat first|refine v_ ?_|intro
    exact e5_
   |some p =>
    rw[ha] at tk;refine t_ func60 ntmps60 ?_;repeat first|refine v_ ?_|intro
    rename_i g3 g4;refine rB (l_ [0,1,2,3,4,5,6] (g_ 7 (n_ 8 .nil))) ([aJ g 121 _,aJ g3 39 _]) ?_;repeat first|refine v_ ?_|intro
    refine eJ to ?_;repeat first|refine v_ ?_|intro
    refine rB (l_ [0,1,2,3,4,5,6] (g_ 7 .nil)) ([aJ g 121 _,aJ g3 39 _]) ?_;repeat first|refine v_ ?_|intro
    refine iO tk ?_;rintro e H' ⟨_,_,_,_,rfl,rfl⟩;repeat first|refine v_ ?_|intro
    exact e5_
  ·rw[if_neg h8];by_cases h9:st.kind=9
   ·rw[if_pos h9];obtain⟨wc,ok⟩:=cpv;dsimp only at cp⊢;cases ok with
    |true =>
     simp only[if_true];refine t_ func60 ntmps60 ?_;repeat first|refine v_ ?_|intro
     rename_i g3 g4;refine rB (l_ [0,1,2,3,4,5,6] (g_ 7 (n_ 8 .nil))) ([aJ g 121 _,aJ g3 39 _]) ?_;repeat first|refine v_ ?_|intro
     refine eJ to ?_;repeat first|refine v_ ?_|intro
     refine rB (l_ [0,1,2,3,4,5,6] (g_ 7 (n_ 8 .nil))) ([aJ g 121 _,aJ g3 39 _]) ?_;repeat first|refine v_ ?_|intro
     refine eJ cp ?_;repeat first|refine v_ ?_|intro
     exact e5_
    |false =>
     simp only[aCb,if_false];refine t_ func60 ntmps60 ?_;repeat first|refine v_ ?_|intro
     rename_i g3 g4;refine rB (l_ [0,1,2,3,4,5,6] (g_ 7 (n_ 8 .nil))) ([aJ g 121 _,aJ g3 39 _]) ?_;repeat first|refine v_ ?_|intro
     refine eJ to ?_;repeat first|refine v_ ?_|intro
     refine rB (l_ [0,1,2,3,4,5,6] (g_ 7 (n_ 8 .nil))) ([aJ g 121 _,aJ g3 39 _]) ?_;repeat first|refine v_ ?_|intro
     refine eJ cp ?_;repeat first|refine v_ ?_|intro
     refine bK (λ(E':Env)=>fl E' 10) ?_;repeat first|refine v_ ?_|intro
     exact e5_
   ·rw[if_neg h9];cases brv with
    |true =>
     simp only[if_true];refine t_ func60 ntmps60 ?_;repeat first|refine v_ ?_|intro
     rename_i g3 g4;refine rB (l_ [0,1,2,3,4,5,6] (g_ 7 (n_ 8 .nil))) ([aJ g 121 _,aJ g3 39 _]) ?_;repeat first|refine v_ ?_|intro
     refine eJ to ?_;repeat first|refine v_ ?_|intro
     refine rB (l_ [0,1,2,3,4,5,6] (g_ 7 (n_ 8 .nil))) ([aJ g 121 _,aJ g3 39 _]) ?_;repeat first|refine v_ ?_|intro
     refine eJ br ?_;repeat first|refine v_ ?_|intro
     refine bK (λ(E':Env)=>fl E' 9) ?_;repeat first|refine v_ ?_|intro
     exact e5_
    |false =>
     simp only[aCb,if_false];obtain⟨wf,ok⟩:=flv;dsimp only at fp⊢;cases ok with
     |true =>
      simp only[if_true];refine t_ func60 ntmps60 ?_;repeat first|refine v_ ?_|intro
      rename_i g3 g4;refine rB (l_ [0,1,2,3,4,5,6] (g_ 7 (n_ 8 .nil))) ([aJ g 121 _,aJ g3 39 _]) ?_;repeat first|refine v_ ?_|intro
      refine eJ to ?_;repeat first|refine v_ ?_|intro
      refine rB (l_ [0,1,2,3,4,5,6] (g_ 7 (n_ 8 .nil))) ([aJ g 121 _,aJ g3 39 _]) ?_;repeat first|refine v_ ?_|intro
      refine eJ br ?_;repeat first|refine v_ ?_|intro
      refine rB (l_ [0,1,2,3,4,5,6,7,8] (g_ 9 (l_ [10,11] .nil))) ([aJ g 121 _,aJ g3 39 _]) ?_;repeat first|refine v_ ?_|intro
      refine eJ fp ?_;repeat first|refine v_ ?_|intro
      exact e5_
     |false =>
      simp only[aCb,if_false];refine t_ func60 ntmps60 ?_;repeat first|refine v_ ?_|intro
      rename_i g3 g4;refine rB (l_ [0,1,2,3,4,5,6] (g_ 7 (n_ 8 .nil))) ([aJ g 121 _,aJ g3 39 _]) ?_;repeat first|refine v_ ?_|intro
      refine eJ to ?_;repeat first|refine v_ ?_|intro
      refine rB (l_ [0,1,2,3,4,5,6] (g_ 7 (n_ 8 .nil))) ([aJ g 121 _,aJ g3 39 _]) ?_;repeat first|refine v_ ?_|intro
      refine eJ br ?_;repeat first|refine v_ ?_|intro
      refine rB (l_ [0,1,2,3,4,5,6,7,8] (g_ 9 (l_ [10,11] .nil))) ([aJ g 121 _,aJ g3 39 _]) ?_;repeat first|refine v_ ?_|intro
      refine eJ fp ?_;repeat first|refine v_ ?_|intro
      refine bK (λ(E':Env)=>fl E' 4) ?_;repeat first|refine v_ ?_|intro
      exact e5_
end
noncomputable def wF(r:Int)(n:Nd)(st:cH):(Int×Nd)×wM :=
 if st.kind=11 then(if 255<st.n then((r,n),⟨4,0,0⟩) else((dF st.n 0 255,n),⟨0,0,0⟩))
 else if st.kind=12 then(if n.up then((r,n.CA),⟨0,0,0⟩) else((r,n),⟨19,0,0⟩))
 else if st.kind=13 then((r,n.rO.1),⟨n.rO.2,0,0⟩)
 else if st.kind=15 then((r,n.pack.1),⟨n.pack.2,0,0⟩)
 else if st.kind=14 then(if 4096<st.n then((r,n),⟨4,0,0⟩) else if n.up then((r,n.arm (st.n - 1)),⟨0,0,0⟩) else((r,n),⟨19,0,0⟩))
 else((r,n),⟨0,0,0⟩)
theorem bZ.qK{P:List Ov}{g:Nat}{cf:fU}{n:Nd}{k k':Int}(h:k≤k'):cA [bZ P g cf n k] [bZ P g cf n k']:=by
 have:=bZ.mono (P:=P) (Q:=[]) (g:=g) (cf:=cf) (n:=n) h;rw[aAc] at this;exact this
section
variable (E:Env) (P:List Ov) (g gr:Nat) (x:AM) (now:Int) (sn:Nat) (cf:fU) (nn:Nat) (sub:Int) (n:Nd) (k:Int) (r:Int) (l:List dK)
theorem Uy(st:cH)(hk:k≤10000000000000)(hn:0≤st.n∧st.n≤2147483647):G E 61 [pt g,pt gr,.agg st.cs.toArray] [aJ g 121 (wC x now sn cf nn sub),bZ P gr cf n k,cK x.gg r l,aI P] λe H'=>∃Q,e=.returned (.agg (wF r n st).2.cs.toArray)∧H'=[aJ g 121 (wC x now sn cf nn sub),bZ (P++Q) gr cf (wF r n st).1.2 (k+4128),cK x.gg (wF r n st).1.1 l,aI (P++Q)]:=by
 have fl:=λE' e=>tD E' e;have up:=λE'=>TI E' P gr cf n k;unfold wF;by_cases h11:st.kind=11
 ·rw[if_pos h11];by_cases h255:255<st.n
  ·rw[if_pos h255];refine t_ func61 ntmps61 ?_;repeat first|refine v_ ?_|intro
   refine bK (λ(E':Env)=>fl E' (4)) ?_;repeat first|refine v_ ?_|intro
   exact cI (H':=[aJ g 121 (wC x now sn cf nn sub),bZ (P++[]) gr cf n (k+4128),cK x.gg r l,aI (P++[])]) rfl aF rfl rfl rfl aS rfl (by rw[aAc];exact aB.trans (aB.imp (bZ.qK (show k≤k+4128 by omega)) aC) aA) ⟨[],rfl,rfl⟩
  ·rw[if_neg h255];refine t_ func61 ntmps61 ?_;repeat first|refine v_ ?_|intro
   rename_i g5 g6;refine rB (l_ [0,1,2,3,4,5,6] (g_ 7 .nil)) ([aJ g 121 _,aJ g5 39 _]) ?_;repeat first|refine v_ ?_|intro
   refine eJ (λ(E':Env)=>Pz E' x.gg r l st.n) ?_;repeat first|refine v_ ?_|intro
   exact cI (H':=[aJ g 121 (wC x now sn cf nn sub),bZ (P++[]) gr cf n (k+4128),cK x.gg (dF st.n 0 255) l,aI (P++[])]) rfl aF rfl rfl rfl aS rfl (by rw[aAc];exact aB.trans (aB.imp (bZ.qK (show k≤k+4128 by omega)) aC) aA) ⟨[],rfl,rfl⟩
 rw[if_neg h11];by_cases h12:st.kind=12
 ·rw[if_pos h12];have cr:=λE'=>UM E' P gr cf n k;cases hu:n.up with
  |true =>
   rw[hu] at cr;simp only[if_true] at cr⊢;refine t_ func61 ntmps61 ?_;repeat first|refine v_ ?_|intro
   refine bK cr ?_;repeat first|refine v_ ?_|intro
   exact cI (H':=[aJ g 121 (wC x now sn cf nn sub),bZ (P++[]) gr cf n.CA (k+4128),cK x.gg r l,aI (P++[])]) rfl aF rfl rfl rfl aS rfl (by rw[aAc];exact aB.trans (aB.imp (bZ.qK (show k≤k+4128 by omega)) aC) aA) ⟨[],rfl,rfl⟩
  |false =>
   rw[hu] at cr;simp only[aCb,if_false] at cr⊢;refine t_ func61 ntmps61 ?_;repeat first|refine v_ ?_|intro
   refine bK cr ?_;repeat first|refine v_ ?_|intro
   refine bK (λ(E':Env)=>fl E' (19)) ?_;repeat first|refine v_ ?_|intro
   exact cI (H':=[aJ g 121 (wC x now sn cf nn sub),bZ (P++[]) gr cf n (k+4128),cK x.gg r l,aI (P++[])]) rfl aF rfl rfl rfl aS rfl (by rw[aAc];exact aB.trans (aB.imp (bZ.qK (show k≤k+4128 by omega)) aC) aA) ⟨[],rfl,rfl⟩
 rw[if_neg h12];by_cases h13:st.kind=13
 ·rw[if_pos h13];have rs:=λE'=>O3 E' P gr cf n k hk;generalize n.rO=res at *;obtain⟨n2,code⟩:=res;dsimp only at rs⊢;refine t_ func61 ntmps61 ?_;repeat first|refine v_ ?_|intro
  refine bW rs ?_;rintro e H' ⟨Q,rfl,rfl⟩;repeat first|refine v_ ?_|intro
  refine bK (λ(E':Env)=>fl E' (code)) ?_;repeat first|refine v_ ?_|intro
  exact cI (H':=[aJ g 121 (wC x now sn cf nn sub),bZ (P++Q) gr cf n2 (k+4128),cK x.gg r l,aI (P++Q)]) rfl aF rfl rfl rfl aS rfl (aB.trans (aB.imp (bZ.qK (show k+2048≤k+4128 by omega)) aC) aA) ⟨Q,rfl,rfl⟩
 rw[if_neg h13];by_cases h15:st.kind=15
 ·rw[if_pos h15];have pk:=λE'=>Wt E' P gr cf n k hk;generalize n.pack=res at *;obtain⟨n2,code⟩:=res;dsimp only at pk⊢;refine t_ func61 ntmps61 ?_;repeat first|refine v_ ?_|intro
  refine bK pk ?_;repeat first|refine v_ ?_|intro
  refine bK (λ(E':Env)=>fl E' (code)) ?_;repeat first|refine v_ ?_|intro
  exact cI (H':=[aJ g 121 (wC x now sn cf nn sub),bZ (P++[]) gr cf n2 (k+4128),cK x.gg r l,aI (P++[])]) rfl aF rfl rfl rfl aS rfl (by rw[aAc];exact aB.trans (aB.imp (bZ.qK (show k+4128≤k+4128 by omega)) aC) aA) ⟨[],rfl,rfl⟩
 rw[if_neg h15];by_cases h14:st.kind=14
 ·rw[if_pos h14];by_cases h4096:4096<st.n
  ·rw[if_pos h4096];refine t_ func61 ntmps61 ?_;repeat first|refine v_ ?_|intro
   refine bK (λ(E':Env)=>fl E' (4)) ?_;repeat first|refine v_ ?_|intro
   exact cI (H':=[aJ g 121 (wC x now sn cf nn sub),bZ (P++[]) gr cf n (k+4128),cK x.gg r l,aI (P++[])]) rfl aF rfl rfl rfl aS rfl (by rw[aAc];exact aB.trans (aB.imp (bZ.qK (show k≤k+4128 by omega)) aC) aA) ⟨[],rfl,rfl⟩
  ·rw[if_neg h4096];cases hu:n.up with
   |true =>
    rw[hu] at up;simp only[if_true];refine t_ func61 ntmps61 ?_;repeat first|refine v_ ?_|intro
    refine bK up ?_;repeat first|refine v_ ?_|intro
    refine bK (λ(E':Env)=>ZD E' P gr cf n k (st.n - 1) (by omega)) ?_;repeat first|refine v_ ?_|intro
    exact cI (H':=[aJ g 121 (wC x now sn cf nn sub),bZ (P++[]) gr cf (n.arm (st.n - 1)) (k+4128),cK x.gg r l,aI (P++[])]) rfl aF rfl rfl rfl aS rfl (by rw[aAc];exact aB.trans (aB.imp (bZ.qK (show k≤k+4128 by omega)) aC) aA) ⟨[],rfl,rfl⟩
   |false =>
    rw[hu] at up;simp only[aCb,if_false];refine t_ func61 ntmps61 ?_;repeat first|refine v_ ?_|intro
    refine bK up ?_;repeat first|refine v_ ?_|intro
    refine bK (λ(E':Env)=>fl E' (19)) ?_;repeat first|refine v_ ?_|intro
    exact cI (H':=[aJ g 121 (wC x now sn cf nn sub),bZ (P++[]) gr cf n (k+4128),cK x.gg r l,aI (P++[])]) rfl aF rfl rfl rfl aS rfl (by rw[aAc];exact aB.trans (aB.imp (bZ.qK (show k≤k+4128 by omega)) aC) aA) ⟨[],rfl,rfl⟩
 rw[if_neg h14];refine t_ func61 ntmps61 ?_;repeat first|refine v_ ?_|intro
 exact cI (H':=[aJ g 121 (wC x now sn cf nn sub),bZ (P++[]) gr cf n (k+4128),cK x.gg r l,aI (P++[])]) rfl aF rfl rfl rfl aS rfl (by rw[aAc];exact aB.trans (aB.imp (bZ.qK (show k≤k+4128 by omega)) aC) aA) ⟨[],rfl,rfl⟩
end
def lR(s:Sv)(m:Mg):Mg:=if answers s m then uN s m else mz
def dG(ws:List fD)(n:Nd)(m:Mg):(List fD×Nd)×wM :=
 if m.kind=1 then
  (if n.sync.2≠0 then((ws,n.sync.1),⟨0,0,0⟩) else(((jW ws (lR n.sync.1.s m)).1,n.sync.1),⟨0,(jW ws (lR n.sync.1.s m)).2,0⟩))
 else if m.kind=2 then((ws,(n.take (kL n.s m)).1),⟨(n.take (kL n.s m)).2.2,(n.take (kL n.s m)).2.1,0⟩)
 else if (n.s.doc (.qJ m.key)).2≠0 then((ws,n),⟨0,0,0⟩)
 else((ws,(n.take [.qJ m.key]).1),⟨(n.take [.qJ m.key]).2.2,(n.take [.qJ m.key]).2.1,0⟩)
theorem Rd.front{α:Type}{E:Env}{T:Ty α}{A:Option Addr}{a c:Nat}{l:List α}(h:Rd E T A a c l)(k:Nat):Rd E T A (min a k) (min a k) (l.take k):=by
 have hl:=h.len;have hc:=h.cap;have h2:=h.upto (k:=min a k) (m:=min a k) o_ (aAf _) o_;by_cases hk:k≤a
 ·rw[aFe hk] at h2⊢;exact h2
 ·rw[aBr o_] at h2⊢;rw[aAj o_] at h2⊢;exact h2
theorem JI{s:Sv}{l:List aX}{x:Rc}(h:x∈(tryAll s l).2):∃c∈l,x=.lI c:=by
 have:∀(l:List aX) (z:Sv×List Rc),x∈(l.foldl (λz c=>eE z (.lI c)) z).2→x∈z.2∨∃c∈l,x=.lI c:=by
  intro l
  induction l with
  |nil=>exact λz h=>.inl h
  |cons c l ih =>
   intro z h;rw[aFj] at h;rcases ih _ h with h|⟨d,hd,rfl⟩
   ·unfold eE at h;dsimp only at h;split at h
    ·rcases aBg.1 h with h|h
     ·exact .inl h
     ·exact .inr ⟨c,aBo,aAp.1 h⟩
    ·exact .inl h
   ·exact .inr ⟨d,aBl _ hd,rfl⟩
 rcases this l (s,[]) h with h|h
 ·cases h
 ·exact h
theorem D9{x:Rc}:∀ {l:List bJ} {s:Sv} {out:List Rc},x∈comms s out l→x∈out∨∃a,x=.rI a
 | [],_,_,h=>.inl h
 |a::l,s,out,h=>by
  unfold comms at h;split at h
  ·rcases D9 h with h|h
   ·rcases aBg.1 h with h|h
    ·exact .inl h
    ·exact .inr ⟨a,aAp.1 h⟩
   ·exact .inr h
  ·exact .inl h
theorem Pt{s:Sv}{m:Mg}(h:m.ok):∀x∈kL s m,x.ok:=by
 intro x hx;unfold kL at hx;split at hx
 ·rename_i hcond;obtain⟨_,_,_,f4,_⟩:=Mg.Ei hcond.1 hcond.2.1;have h1:∀x∈(tryAll s m.iS).2,x.ok:=λx hx=>by
   obtain⟨c,hc,rfl⟩:=JI hx;exact Jj (aDm.1 f4 c hc) (h.1 c hc)
  split at hx
  ·exact h1 x hx
  ·rcases D9 hx with hx|⟨a,rfl⟩
   ·exact h1 x hx
   ·trivial
 ·cases hx
theorem aK.pre{P:Program}{E:Env}{f:FuncId}{args:Array Value}{H H2:List aL}{Q:Ending→List aL→Prop}(hc:aB E H H2)(k:aK P E f args H2 Q):aK P E f args H Q:=λhd w hw=>k hd w (hc w hw)
section
variable (E:Env) (P:List Ov) (g gr:Nat) (x:AM) (now:Int) (sn:Nat) (cf:fU) (nn:Nat) (sub:Int) (n:Nd) (k:Int) (ws:List fD)
theorem Ss(m:Mg)(A:Option Addr)(na c:Nat)(B:Option Addr)(nb d:Nat)(hI:Rd E fN A na c m.ids)(hC:Rd E bE B nb d m.iS)(hok:m.ok)(hu:n.up=true)(h2:m.kind=2):G E 123 [pt g,pt gr,.agg (oK m A na c B nb d).toArray] [aJ g 121 (wC x now sn cf nn sub),bZ P gr cf n k,aZ x.gw ws,aI P] λe H'=>∃Q,e=.returned (.agg (dG ws n m).2.cs.toArray)∧H'=[aJ g 121 (wC x now sn cf nn sub),bZ (P++Q) gr cf (dG ws n m).1.2 k,aZ x.gw (dG ws n m).1.1,aI (P++Q)]:=by
 have st:=λE'=>wW E' P gr cf n k;simp only[hu,if_true] at st;unfold dG;rw[if_neg o_,if_pos h2];have hto:=Pt (s:=n.s) (m:=m) hok;have tkk:=λE' gs hI hC=>Xg E' P gs n.s m A na c B nb d hI hC hok;have tk:=λ(E':Env) Q X qc (hr:Rd E' jE X (kL n.s m).length qc ((kL n.s m).map Rc.r)) h100=>aK.pre (show aB E' [bZ P gr cf n k,aI (P++Q)] [bZ (P++Q) gr cf n k,aI (P++Q)] from aB.imp (bZ.mono (aCd k)) aC) (QP E' (P++Q) gr cf n k X (kL n.s m).length qc (kL n.s m) hr hto h100);generalize kL n.s m=tl at *;generalize n.take tl=res at *;obtain⟨n2,z,code⟩:=res;dsimp only at tk⊢;refine t_ func123 ntmps123 ?_;repeat first|refine v_ ?_|intro
 rename_i g5 g6;refine rB (l_ [0,2] (g_ 1 (g_ 3 (n_ 4 .nil)))) ([aJ g5 195 _]) ?_;repeat first|refine v_ ?_|intro
 refine iO st ?_;rintro e H' ⟨gs,rfl,rfl⟩;repeat first|refine v_ ?_|intro
 refine OW (λ(E':Env)=>tkk E' gs) ?_;rintro e H' ⟨Q,X,qc,h1,h100,rfl,rfl⟩;repeat first|refine v_ ?_|intro
 refine dX (λ(E':Env) h1=>tk E' Q X qc h1 (by omega)) ?_;rintro e H' ⟨Q2,rfl,rfl⟩;repeat first|refine v_ ?_|intro
 exact cI (H':=[aJ g 121 (wC x now sn cf nn sub),bZ (P++(Q++Q2)) gr cf n2 k,aZ x.gw ws,aI (P++(Q++Q2))]) rfl aF rfl rfl rfl aS rfl (by rw[←aAb];exact aA) ⟨Q++Q2,rfl,rfl⟩
end
section
variable (E:Env) (P:List Ov) (g gr:Nat) (x:AM) (now:Int) (sn:Nat) (cf:fU) (nn:Nat) (sub:Int) (n:Nd) (k:Int) (ws:List fD)
theorem Sq(m:Mg)(A:Option Addr)(na c:Nat)(B:Option Addr)(nb d:Nat)(hu:n.up=true)(h1:m.kind≠1)(h2:m.kind≠2):G E 123 [pt g,pt gr,.agg (oK m A na c B nb d).toArray] [aJ g 121 (wC x now sn cf nn sub),bZ P gr cf n k,aZ x.gw ws,aI P] λe H'=>∃Q,e=.returned (.agg (dG ws n m).2.cs.toArray)∧H'=[aJ g 121 (wC x now sn cf nn sub),bZ (P++Q) gr cf (dG ws n m).1.2 k,aZ x.gw (dG ws n m).1.1,aI (P++Q)]:=by
 have st:=λE'=>wW E' P gr cf n k;simp only[hu,if_true] at st;unfold dG;rw[if_neg h1,if_neg h2];have doo:=λE' gs=>Sz E' P gs n.s (.qJ m.key) trivial;have tk:=λ(E':Env) Q X qc (hr:Rd E' jE X 1 qc [⟨4,mW,⟨0,0⟩,m.key,0⟩])=>aK.pre (show aB E' [bZ P gr cf n k,aI (P++Q)] [bZ (P++Q) gr cf n k,aI (P++Q)] from aB.imp (bZ.mono (aCd k)) aC) (QP E' (P++Q) gr cf n k X 1 qc [.qJ m.key] hr (by simp[Rc.ok]) o_);generalize n.take [.qJ m.key]=res at *;obtain⟨n2,z,code⟩:=res;generalize n.s.doc (.qJ m.key)=dd at *;obtain⟨s2,cd⟩:=dd;dsimp only at tk doo⊢;have hget:([⟨4,mW,⟨0,0⟩,m.key,0⟩]:List pD)[0]?=some ⟨4,mW,⟨0,0⟩,m.key,0⟩:=rfl;by_cases h0:cd=0
 ·subst h0;rw[if_neg sD];refine t_ func123 ntmps123 ?_;repeat first|refine v_ ?_|intro
  rename_i g5 g6;refine cl sD sK aC (λE' hE=>NW (E:=E') m.key) ?_;rintro e H' ⟨rfl,rfl⟩;repeat first|refine v_ ?_|intro
  rename_i g7;refine rB (l_ [0,2,3,4] (g_ 1 (g_ 5 (n_ 6 .nil)))) ([own jE (some ⟨g7,0,none⟩) 1 1 _]) ?_;repeat first|refine v_ ?_|intro
  refine iO st ?_;rintro e H' ⟨gs,rfl,rfl⟩;repeat first|refine v_ ?_|intro
  refine iO (λ(E':Env)=>doo E' gs) ?_;rintro e H' ⟨Q,rfl,rfl⟩;repeat first|refine v_ ?_|intro
  refine dX (λ(E':Env)=>tk E' Q _ _) ?_;rintro e H' ⟨Q2,rfl,rfl⟩;repeat first|refine v_ ?_|intro
  exact cI (H':=[aJ g 121 (wC x now sn cf nn sub),bZ (P++(Q++Q2)) gr cf n2 k,aZ x.gw ws,aI (P++(Q++Q2))]) rfl aF rfl rfl rfl aS rfl (by rw[←aAb];exact aA) ⟨Q++Q2,rfl,rfl⟩
 ·rw[if_pos h0];refine t_ func123 ntmps123 ?_;repeat first|refine v_ ?_|intro
  rename_i g5 g6;refine cl sD sK aC (λE' hE=>NW (E:=E') m.key) ?_;rintro e H' ⟨rfl,rfl⟩;repeat first|refine v_ ?_|intro
  rename_i g7;refine rB (l_ [0,2,3,4] (g_ 1 (g_ 5 (n_ 6 .nil)))) ([own jE (some ⟨g7,0,none⟩) 1 1 _]) ?_;repeat first|refine v_ ?_|intro
  refine iO st ?_;rintro e H' ⟨gs,rfl,rfl⟩;repeat first|refine v_ ?_|intro
  refine iO (λ(E':Env)=>doo E' gs) ?_;rintro e H' ⟨Q,rfl,rfl⟩;repeat first|refine v_ ?_|intro
  exact cI (H':=[aJ g 121 (wC x now sn cf nn sub),bZ (P++Q) gr cf n k,aZ x.gw ws,aI (P++Q)]) rfl aF rfl rfl rfl aS rfl (aB.trans (aB.imp (bZ.mono (aCd k)) aC) aA) ⟨Q,rfl,rfl⟩
end
section
variable (E:Env) (P:List Ov) (g gr:Nat) (x:AM) (now:Int) (sn:Nat) (cf:fU) (nn:Nat) (sub:Int) (n:Nd) (k:Int) (ws:List fD)
theorem Rf(m:Mg)(A:Option Addr)(na c:Nat)(B:Option Addr)(nb d:Nat)(hI:Rd E fN A na c m.ids)(hC:Rd E bE B nb d m.iS)(hk:k≤10000000000000)(h1:m.kind=1):G E 123 [pt g,pt gr,.agg (oK m A na c B nb d).toArray] [aJ g 121 (wC x now sn cf nn sub),bZ P gr cf n k,aZ x.gw ws] (cM (.agg (dG ws n m).2.cs.toArray) [aJ g 121 (wC x now sn cf nn sub),bZ P gr cf (dG ws n m).1.2 (k+2048),aZ x.gw (dG ws n m).1.1]):=by
 have sy:=λE'=>KU E' P gr cf n k hk;have hup:=J3 (n:=n);unfold dG;rw[if_pos h1];generalize n.sync=res at *;obtain⟨n2,code⟩:=res;dsimp only at sy hup⊢;by_cases h0:code=0
 ·subst h0;rw[if_neg sD];have hu:=hup rfl;have st:=λE'=>wW E' P gr cf n2 (k+2048);simp only[hu,if_true] at st;by_cases hyes:answers n2.s m
  ·rw[show lR n2.s m=uN n2.s m from if_pos hyes];have QV:=λE' gs hI hC=>RF E' P gs n2.s m A na c B nb d hI hC hyes;have post:=λ(E':Env) X a z Y b y hX hY=>BV E' g x now sn cf nn sub ws (uN n2.s m) X a z Y b y hX hY;generalize hp:jW ws (uN n2.s m)=p at *;obtain⟨ws2,v⟩:=p;dsimp only at post⊢;refine t_ func123 ntmps123 ?_;repeat first|refine v_ ?_|refine Dr.two ?_ ?_|intro
   refine bK sy ?_;repeat first|refine v_ ?_|refine Dr.two ?_ ?_|intro
   rename_i g5 g6;refine C.BI (X:=Option Addr×Nat×Nat×Option Addr×Nat×Nat×Nat) (λy=>[(0,pt g),(6,pt g6),(8,pt y.2.2.2.2.2.2)]) (λy=>[aJ y.2.2.2.2.2.2 195 (oK (uN n2.s m) y.1 (min y.2.1 16) (min y.2.1 16) y.2.2.2.1 (min y.2.2.2.2.1 8) (min y.2.2.2.2.1 8)),own fN y.1 y.2.1 y.2.2.1 (oX n2.s m),own bE y.2.2.2.1 y.2.2.2.2.1 y.2.2.2.2.2.1 (E8 n2.s m),aJ g6 36 CQ.cs,aJ g 121 (wC x now sn cf nn sub),bZ P gr cf n2 (k+2048),aZ x.gw ws]) (λ_=>True) ?_ ?_
   ·refine rB (l_ [0,2] (.two 1 (.two 3 (l_ [4,5,6] (g_ 7 (g_ 8 (n_ 9 .nil)))) 7 (g_ 3 (l_ [4,5,6] (g_ 8 (n_ 9 .nil))))) 7 (g_ 1 (g_ 3 (l_ [4,5,6] (g_ 8 (n_ 9 .nil))))))) ([aJ g5 195 _]) ?_;repeat first|refine v_ ?_|intro
    refine Dr.two ?_ ?_
    ·refine yB rfl sD bA sK aC (λE' hE=>st E') ?_;rintro e H' ⟨gs,rfl,rfl⟩;repeat first|refine v_ ?_|intro
     refine Dr.two ?_ ?_
     ·refine yB rfl sD bA sK aC (λE' hE=>QV E' gs (hI.sub hE) (hC.sub hE)) ?_;rintro e H' ⟨X,a,z,K2,b,y,ha,rfl,rfl⟩;repeat first|refine cY ?_|intro
      rename_i g8;exact⟨(X,a,z,K2,b,y,g8),aD,aA,trivial⟩
     ·repeat first|refine cY ?_|intro
      refine OW (λ(E':Env)=>QV E' gs) ?_;rintro e H' ⟨X,a,z,K2,b,y,ha,rfl,rfl⟩;repeat first|refine cY ?_|intro
      rename_i g8;exact⟨(X,a,z,K2,b,y,g8),aD,aA,trivial⟩
    ·repeat first|refine cY ?_|intro
     refine iO st ?_;rintro e H' ⟨gs,rfl,rfl⟩;repeat first|refine cY ?_|intro
     refine OW (λ(E':Env)=>QV E' gs) ?_;rintro e H' ⟨X,a,z,K2,b,y,ha,rfl,rfl⟩;repeat first|refine cY ?_|intro
     rename_i g8;exact⟨(X,a,z,K2,b,y,g8),aD,aA,trivial⟩
   ·rintro⟨X,a,z,K2,b,y,g8⟩ F -;dsimp only;repeat first|refine v_ ?_|refine Dr.two ?_ ?_|intro
    refine rB (l_ [0,1,2,3] (g_ 4 (n_ 5 (g_ 6 .nil)))) ([aJ g8 195 _]) ?_;repeat first|refine v_ ?_|refine Dr.two ?_ ?_|intro
    refine cg rfl sD bA sK aC (λE' hE=>post E' X (min a 16) (min a 16) K2 (min b 8) (min b 8) (Rd.front (show Rd E' fN X a z (oX n2.s m) from dB) 16) (Rd.front (show Rd E' bE K2 b y (E8 n2.s m) from dB) 8)) ?_;rintro e H' ⟨rfl,rfl⟩;repeat first|refine v_ ?_|refine Dr.two ?_ ?_|intro
    exact e5_
  ·rw[show lR n2.s m=mz from if_neg hyes];have QV:=λE' gs hI hC=>Hq E' P gs n2.s m A na c B nb d hI hC hyes;have post:=λ(E':Env)=>BV E' g x now sn cf nn sub ws mz none 0 0 none 0 0 (Rd.nil _ _) (Rd.nil _ _);generalize jW ws mz=p at *;obtain⟨ws2,v⟩:=p;dsimp only at post⊢;refine t_ func123 ntmps123 ?_;repeat first|refine v_ ?_|refine Dr.two ?_ ?_|intro
   refine bK sy ?_;repeat first|refine v_ ?_|refine Dr.two ?_ ?_|intro
   rename_i g5 g6;refine C.BI (X:=Nat) (λy=>[(0,pt g),(6,pt g6),(8,pt y)]) (λy=>[aJ y 195 (oK mz none 0 0 none 0 0),aJ g6 36 CQ.cs,aJ g 121 (wC x now sn cf nn sub),bZ P gr cf n2 (k+2048),aZ x.gw ws]) (λ_=>True) ?_ ?_
   ·refine rB (l_ [0,2] (.two 1 (.two 3 (l_ [4,5,6] (g_ 7 (g_ 8 (n_ 9 .nil)))) 7 (g_ 3 (l_ [4,5,6] (g_ 8 (n_ 9 .nil))))) 7 (g_ 1 (g_ 3 (l_ [4,5,6] (g_ 8 (n_ 9 .nil))))))) ([aJ g5 195 _]) ?_;repeat first|refine v_ ?_|intro
    refine Dr.two ?_ ?_
    ·refine yB rfl sD bA sK aC (λE' hE=>st E') ?_;rintro e H' ⟨gs,rfl,rfl⟩;repeat first|refine v_ ?_|intro
     refine Dr.two ?_ ?_
     ·refine yB rfl sD bA sK aC (λE' hE=>QV E' gs (hI.sub hE) (hC.sub hE)) ?_;rintro e H' ⟨rfl,rfl⟩;repeat first|refine cY ?_|intro
      rename_i g8;exact⟨g8,aD,aA,trivial⟩
     ·repeat first|refine cY ?_|intro
      refine Ju (λ(E':Env)=>QV E' gs) ?_;repeat first|refine cY ?_|intro
      rename_i g8;exact⟨g8,aD,aA,trivial⟩
    ·repeat first|refine cY ?_|intro
     refine iO st ?_;rintro e H' ⟨gs,rfl,rfl⟩;repeat first|refine cY ?_|intro
     refine Ju (λ(E':Env)=>QV E' gs) ?_;repeat first|refine cY ?_|intro
     rename_i g8;exact⟨g8,aD,aA,trivial⟩
   ·rintro g8 F -;repeat first|refine v_ ?_|refine Dr.two ?_ ?_|intro
    refine rB (l_ [0,1,2,3] (g_ 4 (n_ 5 (g_ 6 .nil)))) ([aJ g8 195 _]) ?_;repeat first|refine v_ ?_|refine Dr.two ?_ ?_|intro
    refine eJ post ?_;repeat first|refine v_ ?_|refine Dr.two ?_ ?_|intro
    exact e5_
 ·rw[if_pos h0];refine t_ func123 ntmps123 ?_;repeat first|refine v_ ?_|refine Dr.two ?_ ?_|intro
  refine bK sy ?_;repeat first|refine v_ ?_|refine Dr.two ?_ ?_|intro
  exact e5_
end
theorem Qi(E:Env):G E 69 [.pointer none] [] (cM (.bool false) []):=by
 refine t_ func69 ntmps69 ?_;repeat first|refine v_ ?_|intro
 exact e1_
section
variable (E:Env) (P:List Ov) (g:Nat) (x:AM) (now:Int) (sn:Nat) (cf:fU) (nn:Nat) (sub:Int) (ws:List fD)
theorem CR(i:Int)(h:xB ws i=none):G E 59 [pt g,.int .i64 i] [aJ g 121 (wC x now sn cf nn sub),aZ x.gw ws] (cM (.agg (⟨14,0,0⟩:wM).cs.toArray) [aJ g 121 (wC x now sn cf nn sub),aZ x.gw ws]):=by
 have fl:=λE' e=>tD E' e;have to:=λE'=>JU E' x.gw ws i;have tk:=λE'=>vV E' x.gw ws i;rw[h] at to tk;refine t_ func59 ntmps59 ?_;repeat first|refine v_ ?_|intro
 refine bK to ?_;repeat first|refine v_ ?_|intro
 refine bK tk ?_;repeat first|refine v_ ?_|intro
 refine bK (λ(E':Env)=>fl E' 14) ?_;repeat first|refine v_ ?_|intro
 exact e5_
theorem DE(i:Int)(p:fD)(h:xB ws i=some p)(hb:mM p.b=none)(hlen:p.b.length≤1000000):G E 59 [pt g,.int .i64 i] [aJ g 121 (wC x now sn cf nn sub),aZ x.gw ws] (cM (.agg (⟨0,0,0⟩:wM).cs.toArray) [aJ g 121 (wC x now sn cf nn sub),aZ x.gw (cR ws i)]):=by
 have to:=λE'=>JU E' x.gw ws i;have tk:=λE'=>vV E' x.gw ws i;rw[h] at to tk;have gt:=λ(E':Env) A n c hr hl=>Gv (E:=E') (A:=A) (n:=n) (c:=c) p.b hr hl;rw[hb] at gt;refine t_ func59 ntmps59 ?_;repeat first|refine v_ ?_|intro
 refine bK to ?_;repeat first|refine v_ ?_|intro
 refine bW tk ?_;rintro e H' ⟨A,n,c,hn,rfl,rfl⟩;repeat first|refine v_ ?_|intro
 refine cl sD sK aC (λE' hE=>gt E' A n c dB (by have:=(show Rd E' aU A n c p.b from dB).len;omega)) ?_;rintro e H' ⟨rfl,rfl⟩;repeat first|refine v_ ?_|intro
 exact e5_
end
section
variable (E:Env) (P:List Ov) (g:Nat) (x:AM) (now:Int) (sn:Nat) (cf:fU) (nn:Nat) (sub:Int) (ws:List fD)
theorem B4(i:Int)(p:fD)(h:xB ws i=some p)(m:Mg)(hb:mM p.b=some m)(hlen:p.b.length≤1000000)(hto:p.to=9)(r:Int)(l:List dK)(hl:l.length≤1000000):G E 59 [pt g,.int .i64 i] [aJ g 121 (wC x now sn cf nn sub),aZ x.gw ws,cK x.gg r l] (cM (.agg (⟨0,(gG (cR ws i) r l m).2,0⟩:wM).cs.toArray) [aJ g 121 (wC x now sn cf nn sub),aZ x.gw (gG (cR ws i) r l m).1.1,cK x.gg (gG (cR ws i) r l m).1.2.1 (gG (cR ws i) r l m).1.2.2]):=by
 have to:=λE'=>JU E' x.gw ws i;have tk:=λE'=>vV E' x.gw ws i;rw[h] at to tk;simp only[aDi,aBe,hto] at to;have gt:=λ(E':Env) A n c hr hl=>Gv (E:=E') (A:=A) (n:=n) (c:=c) p.b hr hl;rw[hb] at gt;have rq:=λE' O a c B b d=>LJ E' g x now sn cf nn sub (cR ws i) r l hl m O a c B b d;generalize gG (cR ws i) r l m=q at *;obtain⟨⟨ws2,r2,l2⟩,v⟩:=q;dsimp only at rq⊢;refine t_ func59 ntmps59 ?_;repeat first|refine v_ ?_|intro
 refine bK to ?_;repeat first|refine v_ ?_|intro
 refine bW tk ?_;rintro e H' ⟨A,n,c,hn,rfl,rfl⟩;repeat first|refine v_ ?_|intro
 refine cl sD sK aC (λE' hE=>gt E' A n c dB (by have:=(show Rd E' aU A n c p.b from dB).len;omega)) ?_;rintro e H' ⟨O,a,oc,B,b,d,rfl,rfl⟩;repeat first|refine v_ ?_|intro
 rename_i g8;refine rB (l_ [0,1,2,3] (g_ 4 (n_ 5 (g_ 6 .nil)))) ([aJ g8 195 _]) ?_;repeat first|refine v_ ?_|intro
 refine eJ (λ(E':Env)=>rq E' O a oc B b d) ?_;repeat first|refine v_ ?_|intro
 exact e5_
end
section
variable (E:Env) (P:List Ov) (g gr:Nat) (x:AM) (now:Int) (sn:Nat) (cf:fU) (nn:Nat) (sub:Int) (n:Nd) (k:Int) (ws:List fD)
theorem yV(i:Int)(p:fD)(h:xB ws i=some p)(m:Mg)(hb:mM p.b=some m)(hlen:p.b.length≤1000000)(h9:p.to≠9)(hn:nn≤4)(h1:1≤nn)(hto:p.to<0∨(nn:Int)≤p.to):G E 59 [pt g,.int .i64 i] [aJ g 121 (wC x now sn cf nn sub),aZ x.gw ws] (cM (.agg (⟨0,0,0⟩:wM).cs.toArray) [aJ g 121 (wC x now sn cf nn sub),aZ x.gw (cR ws i)]):=by
 have to:=λE'=>JU E' x.gw ws i;have tk:=λE'=>vV E' x.gw ws i;rw[h] at to tk;simp only[aDi,aBe] at to;have gt:=λ(E':Env) A n c hr hl=>Gv (E:=E') (A:=A) (n:=n) (c:=c) p.b hr hl;rw[hb] at gt;have atn:=λE' hb=>EN E' g x now sn cf nn sub p.to hb hn h1 hto;refine t_ func59 ntmps59 ?_;repeat first|refine v_ ?_|intro
 refine bK to ?_;repeat first|refine v_ ?_|intro
 refine bW tk ?_;rintro e H' ⟨A,na,c,hn,rfl,rfl⟩;repeat first|refine v_ ?_|intro
 refine cl sD sK aC (λE' hE=>gt E' A na c dB (by have:=(show Rd E' aU A na c p.b from dB).len;omega)) ?_;rintro e H' ⟨O,a,oc,B,b,d,rfl,rfl⟩;repeat first|refine v_ ?_|intro
 refine eV atn ?_;repeat first|refine v_ ?_|intro
 refine bK Qi ?_;repeat first|refine v_ ?_|intro
 exact e5_
theorem Ew(i:Int)(p:fD)(h:xB ws i=some p)(m:Mg)(hb:mM p.b=some m)(hlen:p.b.length≤1000000)(j:Nat)(hj:p.to=j)(hn:nn≤4)(hgs:x.gs[j]?=some gr)(hu:n.up=false):G E 59 [pt g,.int .i64 i] [aJ g 121 (wC x now sn cf nn sub),bZ P gr cf n k,aZ x.gw ws,own vE x.nA nn x.nc x.gs] (cM (.agg (⟨0,0,0⟩:wM).cs.toArray) [aJ g 121 (wC x now sn cf nn sub),bZ P gr cf n k,aZ x.gw (cR ws i),own vE x.nA nn x.nc x.gs]):=by
 refine aK.fact (p:=nn=x.gs.length) (λw hw=>by obtain⟨F,h1,_⟩:=hw.has (a:=own vE x.nA nn x.nc x.gs) aS;exact(qE h1).1) λhnl=>?_;have hjl:=(aAd.1 hgs).1;have to:=λE'=>JU E' x.gw ws i;have tk:=λE'=>vV E' x.gw ws i;rw[h] at to tk;simp only[aDi,aBe] at to;have gt:=λ(E':Env) A n c hr hl=>Gv (E:=E') (A:=A) (n:=n) (c:=c) p.b hr hl;rw[hb] at gt;rw[hj] at to;have h9:(j:Int)≠9:=by omega
 have aty:=λE' hb hG=>qW E' g x now sn cf nn sub j gr hb hn hG hgs;have up:=λE'=>TI E' P gr cf n k;rw[hu] at up;refine t_ func59 ntmps59 ?_;repeat first|refine v_ ?_|intro
 refine bK to ?_;repeat first|refine v_ ?_|intro
 refine bW tk ?_;rintro e H' ⟨A,na,c,hn,rfl,rfl⟩;repeat first|refine v_ ?_|intro
 refine cl sD sK aC (λE' hE=>gt E' A na c dB (by have:=(show Rd E' aU A na c p.b from dB).len;omega)) ?_;rintro e H' ⟨O,a,oc,B,b,d,rfl,rfl⟩;repeat first|refine v_ ?_|intro
 refine DY aty ?_;repeat first|refine v_ ?_|intro
 refine bK up ?_;repeat first|refine v_ ?_|intro
 exact e5_
end
section
variable (E:Env) (P:List Ov) (g gr:Nat) (x:AM) (now:Int) (sn:Nat) (cf:fU) (nn:Nat) (sub:Int) (n:Nd) (k:Int) (ws:List fD)
theorem UK(m:Mg)(A:Option Addr)(na c:Nat)(B:Option Addr)(nb d:Nat)(hI:Rd E fN A na c m.ids)(hC:Rd E bE B nb d m.iS)(hok:m.ok)(hu:n.up=true)(hk:k≤10000000000000):G E 123 [pt g,pt gr,.agg (oK m A na c B nb d).toArray] [aJ g 121 (wC x now sn cf nn sub),bZ P gr cf n k,aZ x.gw ws,aI P] λe H'=>∃Q,e=.returned (.agg (dG ws n m).2.cs.toArray)∧H'=[aJ g 121 (wC x now sn cf nn sub),bZ (P++Q) gr cf (dG ws n m).1.2 (k+2048),aZ x.gw (dG ws n m).1.1,aI (P++Q)]:=by
 by_cases h1:m.kind=1
 ·refine aK.mono (aK.beside (Hp:=[aJ g 121 (wC x now sn cf nn sub),bZ P gr cf n k,aZ x.gw ws]) (R:=[aI P]) λE' hE=>Rf E' P g gr x now sn cf nn sub n k ws m A na c B nb d (hI.sub hE) (hC.sub hE) hk h1) ?_;rintro e H' ⟨H1,⟨rfl,rfl⟩,rfl⟩;exact⟨[],rfl,by rw[aAc];rfl⟩
 ·have fin:∀Q,aB E [aJ g 121 (wC x now sn cf nn sub),bZ (P++Q) gr cf (dG ws n m).1.2 k,aZ x.gw (dG ws n m).1.1,aI (P++Q)] [aJ g 121 (wC x now sn cf nn sub),bZ (P++Q) gr cf (dG ws n m).1.2 (k+2048),aZ x.gw (dG ws n m).1.1,aI (P++Q)]:=λQ=>aB.cF (cA.cons cA.refl (cA.cons (bZ.qK o_) cA.refl));by_cases h2:m.kind=2
  ·refine aK.post (Ss E P g gr x now sn cf nn sub n k ws m A na c B nb d hI hC hok hu h2) ?_;rintro e H' ⟨Q,rfl,rfl⟩;exact⟨_,fin Q,Q,rfl,rfl⟩
  ·refine aK.post (Sq E P g gr x now sn cf nn sub n k ws m A na c B nb d hu h1 h2) ?_;rintro e H' ⟨Q,rfl,rfl⟩;exact⟨_,fin Q,Q,rfl,rfl⟩
end
section
variable (E:Env) (P:List Ov) (g gr:Nat) (x:AM) (now:Int) (sn:Nat) (cf:fU) (nn:Nat) (sub:Int) (n:Nd) (k:Int) (ws:List fD)
theorem E9(i:Int)(p:fD)(h:xB ws i=some p)(m:Mg)(hb:mM p.b=some m)(hlen:p.b.length≤1000000)(j:Nat)(hj:p.to=j)(hn:nn≤4)(hgs:x.gs[j]?=some gr)(hu:n.up=true)(hk:k≤10000000000000):G E 59 [pt g,.int .i64 i] [aJ g 121 (wC x now sn cf nn sub),bZ P gr cf n k,aZ x.gw ws,aI P,own vE x.nA nn x.nc x.gs] λe H'=>∃Q,e=.returned (.agg (dG (cR ws i) n m).2.cs.toArray)∧H'=[aJ g 121 (wC x now sn cf nn sub),bZ (P++Q) gr cf (dG (cR ws i) n m).1.2 (k+2048),aZ x.gw (dG (cR ws i) n m).1.1,aI (P++Q),own vE x.nA nn x.nc x.gs]:=by
 refine aK.fact (p:=nn=x.gs.length) (λw hw=>by obtain⟨F,h1,_⟩:=hw.has (a:=own vE x.nA nn x.nc x.gs) aS;exact(qE h1).1) λhnl=>?_;have hjl:=(aAd.1 hgs).1;have hok:=(tU hb).2.2;have to:=λE'=>JU E' x.gw ws i;have tk:=λE'=>vV E' x.gw ws i;rw[h] at to tk;simp only[aDi,aBe] at to;have gt:=λ(E':Env) A n c hr hl=>Gv (E:=E') (A:=A) (n:=n) (c:=c) p.b hr hl;rw[hb] at gt;rw[hj] at to;have h9:(j:Int)≠9:=by omega
 have aty:=λE' hb hG=>qW E' g x now sn cf nn sub j gr hb hn hG hgs;have up:=λE'=>TI E' P gr cf n k;rw[hu] at up;have hear:=λE' O a oc B b d hI hC=>UK E' P g gr x now sn cf nn sub n k (cR ws i) m O a oc B b d hI hC hok hu hk;generalize dG (cR ws i) n m=res at *;obtain⟨⟨ws2,n2⟩,QV⟩:=res;dsimp only at hear⊢;refine t_ func59 ntmps59 ?_;repeat first|refine v_ ?_|intro
 refine bK to ?_;repeat first|refine v_ ?_|intro
 refine bW tk ?_;rintro e H' ⟨A,na,c,hnn,rfl,rfl⟩;repeat first|refine v_ ?_|intro
 refine cl sD sK aC (λE' hE=>gt E' A na c dB (by have:=(show Rd E' aU A na c p.b from dB).len;omega)) ?_;rintro e H' ⟨O,a,oc,B,b,d,rfl,rfl⟩;repeat first|refine v_ ?_|intro
 refine DY aty ?_;repeat first|refine v_ ?_|intro
 refine bK up ?_;repeat first|refine v_ ?_|intro
 refine C1 (λ(E':Env)=>hear E' O a oc B b d) ?_;rintro e H' ⟨Q,rfl,rfl⟩;repeat first|refine v_ ?_|intro
 exact cI rfl aF rfl rfl rfl aS rfl aA (⟨Q,rfl,rfl⟩)
end
instance:Bj 176 [.int .i64 0,.int .i64 0,.int .i64 0,.int .i64 0,.int .i64 0] [(0,1),(1,1),(2,1),(3,1),(4,1)] 1:=⟨⟨by kernel_rfl,by kernel_rfl,rfl⟩⟩
instance:Bg 176 [.int .i64 0,.int .i64 0,.int .i64 0,.int .i64 0,.int .i64 0]:=⟨by kernel_rfl⟩
def fU.cV(c:fU):Prop:=(1≤c.bN∧c.bN≤4)∧(1≤c.eF∧c.eF≤64)∧(1≤c.dC∧c.dC≤8)∧(1≤c.base∧c.base≤64)∧1≤c.cap∧c.cap≤64
instance (c:fU):Decidable c.cV:=by unfold fU.cV;infer_instance
theorem KC(E:Env)(c:fU):G E 47 [.agg c.cs.toArray] [] (cM (.int .i64 (if c.cV then 0 else 6)) []):=by
 refine t_ func47 ntmps47 ?_;repeat first|refine v_ ?_|intro
 rename_i g1 g3;obtain⟨qs,hqs⟩:∃qs:List Int,qs=[c.bN,c.eF,c.dC,c.base,c.cap]:=⟨_,rfl⟩
 obtain⟨ts,hts⟩:∃ts:List Int,ts=[4,64,8,64,64]:=⟨_,rfl⟩
 refine C.scan (Y:=Unit) (l:=qs.zip ts) (n:=5) (by subst hqs hts;rfl) (λi _=>[(3,pt g3),(17,.agg (cells qs).toArray),(18,.int .i64 i)])
  (λ_ _=>[aJ g3 176 (cells ts)]) (λi _=>∀j z,j<i→(qs.zip ts)[j]?=some z→1≤z.1∧z.1≤z.2) () (by subst hqs hts;exact⟨rfl,rfl,rfl,trivial⟩) (by subst hqs hts;show aB E _ [aJ g3 176 [.int .i64 4,.int .i64 64,.int .i64 8,.int .i64 64,.int .i64 64]];exact aA) (λj z hj=>by omega) ?_ ?_
 ·rintro i ⟨⟩ ⟨a,b⟩ F hi hz hinv;have hz1:qs[i]?=some a:=(aDf.1 hz).1;have hz2:ts[i]?=some b:=(aDf.1 hz).2;have hA:(cells qs)[i]?=some (Value.int .i64 a):=by simp[cells,hz1]
  have hB:(cells ts)[i]?=some (Value.int .i64 b):=by simp[cells,hz2]
  by_cases hr:1≤a∧a≤b
  ·have hd:decide (1≤a∧a≤b)=true:=decide_eq_true hr;repeat first|refine v_ ?_|intro
   refine⟨(),aD,aA,λj z hj hz'=>?_⟩;by_cases hji:j<i
   ·exact hinv j z hji hz'
   ·obtain rfl:j=i:=by omega
    rw[hz] at hz';injection hz' with hz'
    subst hz';exact hr
  ·have hd:decide (1≤a∧a≤b)=false:=decide_eq_false hr;have hf:¬c.cV:=λhf=>by
    subst hqs hts;unfold fU.cV at hf;rcases(show i=0∨i=1∨i=2∨i=3∨i=4 by omega) with rfl|rfl|rfl|rfl|rfl<;>(injection hz1 with hz1;injection hz2 with hz2;subst hz1 hz2;omega)
   rw[if_neg hf];repeat first|refine v_ ?_|intro
   exact e1_
 ·rintro⟨⟩ F hinv;subst hqs hts;have h0:=hinv 0 _ o_ rfl;have h1:=hinv 1 _ o_ rfl;have h2:=hinv 2 _ o_ rfl;have h3:=hinv 3 _ o_ rfl;have h4:=hinv 4 _ o_ rfl;rw[if_pos (show c.cV from⟨h0,h1,h2,h3,h4⟩)];repeat first|refine v_ ?_|intro
  exact e1_
structure Wv where
 cf:fU
 now:Int
 sub:Int
 aW:List fM
 ws:List fD
 ref:Int
 app:List dK
 bU:List Nd
def sU(ws:List fD):Prop:=(∀p∈ws,p.b.length≤1000000)∧ws.length≤128
structure Wv.ok(t:Nat)(v:Wv):Prop where
 cV:v.cf.cV
 len:(v.bU.length:Int)=v.cf.bN
 now:0≤v.now∧v.now≤1073741824
 sub:0≤v.sub∧v.sub≤48
 aW:v.aW.length≤48*t
 app:v.app.length≤t
 pk:sU v.ws
theorem Wv.ok.rK{t:Nat}{v:Wv}(h:v.ok t):1≤v.bU.length∧v.bU.length≤4:=by
 have h1:=h.cV.1;have h2:=h.len;omega
theorem Wv.ok.node{t:Nat}{v:Wv}(_h:v.ok t){i:Nat}(hi:i<v.bU.length):∃n,v.bU[i]?=some n:=⟨_,aAa hi⟩
abbrev nP(P:List Ov)(cf:fU)(k:Int)(z:Nat×Nd):aL:=bZ P z.1 cf z.2 k
abbrev wL(P:List Ov)(g:Nat)(k:Int)(v:Wv)(x:AM):List aL:=[aJ g 121 (wC x v.now v.aW.length v.cf v.bU.length v.sub),aZ x.gw v.ws,cK x.gg v.ref v.app,own mK x.sA v.aW.length x.sc v.aW,own vE x.nA v.bU.length x.nc x.gs,aO (nP P v.cf k) (x.gs.zip v.bU)]
abbrev kt(t:Nat):Int:=((10000*t:Nat):Int)
theorem uX{t t':Nat}(h:t≤t'):kt t≤kt t':=by simp only[kt];omega
def aQ(P:List Ov)(g:Nat)(t:Nat)(v:Wv):aL:=nI (λx:AM=>v.ok t∧x.gs.length=v.bU.length) (wL P g (kt t) v)
theorem cA.X7{X:Type}{f f':X→aL}(h:∀z,cA [f z] [f' z]):∀l:List X,cA (l.map f) (l.map f')
 | []=>cA.refl
 |x::l=>cA.cons (h x) (cA.X7 h l)
theorem cA.Ge{X:Type}{f f':X→aL}{l:List X}(h:∀z,cA [f z] [f' z]):cA [aO f l] [aO f' l]:=λF w hs=>by
 obtain⟨F1,F2,h1,h2,h3,h4⟩:=hs;obtain⟨G,g1,g2⟩:=cA.X7 h l F1 w h3;exact⟨G,⟨G,λ_=>False,λb=>by simp,λ_ _ h=>h,g1,λ_ h=>h⟩,λb hb=>(h1 b).2 (.inl (g2 b hb))⟩
theorem SO{α β:Type}{l:List α}{m:List β}{i:Nat}{a:α}{b:β}(h:l[i]?=some a):(l.zip m).set i (a,b)=l.zip (m.set i b):=by
 refine aCk λj=>?_;by_cases hj:i=j
 ·subst hj;rw[aDr];by_cases hm:i<m.length
  ·have hl:=(aAd.1 h).1;rw[if_pos rfl,if_pos (by rw[aFl];omega)];exact(aDf.2 ⟨h,by rw[aDr,if_pos rfl,if_pos hm]⟩).symm
  ·rw[if_pos rfl,if_neg (by rw[aFl];omega)];exact(aBx.2 (by rw[aFl,aAt];omega)).symm
 ·rw[aEq hj];cases hz:(l.zip m)[j]? with
  |none =>
   have:=aBx.1 hz;exact(aBx.2 (by rw[aFl,aAt];rw[aFl] at this;exact this)).symm
  |some z =>
   obtain⟨h1,h2⟩:=aDf.1 hz;exact(aDf.2 ⟨h1,by rw[aEq hj];exact h2⟩).symm
theorem aB.lB{E:Env}{H R l:List aL}(h:cS l H R):aB E H (l++R):=aB.imp cA.refl h
section
variable {E:Env} {H R:List aL} {P Q PQ:List Ov} {g gr:Nat} {t t':Nat} {v v':Wv} {x x':AM} {n n':Nd} {i:Nat} {k k' k2:Int} {cf:fU}
theorem vR(hg:x.gs[i]?=some gr)(hn:v.bU[i]?=some n)(hh:Has (aO (nP P cf k) (x.gs.zip v.bU)) H R):aB E H (bZ P gr cf n k::aO (nP P cf k) ((x.gs.zip v.bU).eraseIdx i)::R) :=
 aB.out (f:=nP P cf k) (x:=(gr,n)) hh (aDf.2 ⟨hg,hn⟩)
theorem Va(hg:x.gs[i]?=some gr)(hn:v.bU[i]?=some n)(h1:k≤k2)(h2:k'≤k2)(hp:cS [bZ (P++Q) gr cf n' k',aO (nP P cf k) ((x.gs.zip v.bU).eraseIdx i)] H R):aB E H (aO (nP (P++Q) cf k2) (x.gs.zip (v.bU.set i n'))::R):=by
 have hi:i<(x.gs.zip v.bU).length:=(aAd.1 (aDf.2 ⟨hg,hn⟩:(x.gs.zip v.bU)[i]?=some (gr,n))).1;have c1:aB E H (bZ (P++Q) gr cf n' k2::aO (nP (P++Q) cf k2) ((x.gs.zip v.bU).eraseIdx i)::R):=aB.imp (cA.cons (bZ.qK h2) (cA.Ge (λz=>bZ.mono (P:=P) (Q:=Q) h1))) hp;rw[←SO hg];exact c1.trans (aB.BH (f:=nP (P++Q) cf k2) (x:=(gr,n')) (.cons .aN (.cons .aN .nil)) (uO hi))
theorem BZ(ht:t≤t')(hPQ:PQ=P++Q)(hg:x'.gs[i]?=some gr)(hn:v.bU[i]?=some n)(h2:k'≤kt t')(hv:v'.ok t')(hgs:x'.gs.length=v.bU.length)(hnd:v'.bU=v.bU.set i n'){nn sn:Nat}(hnn:nn=v.bU.length)(hsn:sn=v'.aW.length)
  (hp:cS [aJ g 121 (wC x' v'.now sn v'.cf nn v'.sub),aZ x'.gw v'.ws,cK x'.gg v'.ref v'.app,own mK x'.sA sn x'.sc v'.aW,own vE x'.nA nn x'.nc x'.gs,bZ PQ gr v'.cf n' k',aO (nP P v'.cf (kt t)) ((x'.gs.zip v.bU).eraseIdx i)] H R):aB E H (aQ PQ g t' v'::R):=by
 subst hPQ;have hl:v'.bU.length=v.bU.length:=by rw[hnd,aAt]
 subst hsn;rw[hnn,←hl] at hp;have c1:=aB.imp (E:=E) cA.refl hp;dsimp only[List.cons_append,List.nil_append] at c1;refine c1.trans (aB.trans (Va (x:=x') (v:=v) (cf:=v'.cf) (k2:=kt t') (Q:=Q) hg hn (uX ht) h2 aC) ?_);rw[←hnd];exact aB.fp (l:=wL (P++Q) g (kt t') v') (x:=x') ⟨hv,by rw[hl];exact hgs⟩ aC
theorem Di(ht:t≤t')(hPQ:PQ=P++Q)(hv:v'.ok t')(hgs:x'.gs.length=v.bU.length)(hnd:v'.bU=v.bU){nn sn:Nat}(hnn:nn=v.bU.length)(hsn:sn=v'.aW.length)
  (hp:cS [aJ g 121 (wC x' v'.now sn v'.cf nn v'.sub),aZ x'.gw v'.ws,cK x'.gg v'.ref v'.app,own mK x'.sA sn x'.sc v'.aW,own vE x'.nA nn x'.nc x'.gs,aO (nP P v'.cf (kt t)) (x'.gs.zip v.bU)] H R):aB E H (aQ PQ g t' v'::R):=by
 subst hPQ hsn;rw[hnn,←hnd] at hp;have c1:=aB.imp (E:=E) cA.refl hp;dsimp only[List.cons_append,List.nil_append] at c1;refine c1.trans (aB.trans (aB.imp (A:=[aO (nP P v'.cf (kt t)) (x'.gs.zip v'.bU)]) (B:=[aO (nP (P++Q) v'.cf (kt t')) (x'.gs.zip v'.bU)]) (cA.Ge (λz=>bZ.mono (P:=P) (Q:=Q) (uX ht))) aC) ?_);dsimp only[List.cons_append,List.nil_append];exact aB.fp (l:=wL (P++Q) g (kt t') v') (x:=x') ⟨hv,by rw[hnd];exact hgs⟩ aC
end
end Go.Proofs.YtmilalkjbojciaaGreat.Sep
