/- Part AT: what it needs. No condition. -/
import Derived.Test.YtmilalkjbojciaaGreatLAA
import Derived.Test.YtmilalkjbojciaaGreatLAR
import Derived.Test.YtmilalkjbojciaaGreatLAS
import Derived.Test.YtmilalkjbojciaaGreatLAQ
import Derived.Test.YtmilalkjbojciaaGreatLAH
set_option maxRecDepth 100000
set_option maxHeartbeats 8000000
open Go.Proofs.Tryz
namespace Go.Proofs.YtmilalkjbojciaaGreat.Sep
open Go.RowKit Reg Oct
open Mem hiding Rd
def vE:Ty Nat where
 val g:=pt g
 size:=1
 bytes:=8
 tid:=122
 zero:=.pointer none
 hlen _:=rfl
 lJ a u h:=by simp[Value.cells] at h;subst h;rfl
 gL:=sD
 hzero:=rfl
 fW:=q_
 nR:=.inr ⟨q_,λ_=>rfl⟩
instance:kQ 122 Nat vE:=⟨rfl⟩
instance:lL vE 8:=⟨rfl⟩
instance:cL 121 [.pointer none,.pointer none,.int .i64 0,.slice none 0 0,.int .i64 0,.int .i64 0,.int .i64 0,.int .i64 0,.int .i64 0,.slice none 0 0,.int .i64 0] [(0,4),(4,5),(9,1),(10,1)]:=⟨⟨q_,q_⟩⟩
instance:cL 118 [.pointer none,.pointer none,.int .i64 0,.slice none 0 0] [(0,1),(1,1),(2,1),(3,1)]:=⟨⟨q_,q_⟩⟩
structure AM where
 gw:Nat
 gg:Nat
 sA:Option Addr
 sc:Nat
 nA:Option Addr
 nc:Nat
 gs:List Nat
abbrev wC(x:AM)(now:Int)(sn:Nat)(cf:fU)(nn:Nat)(sub:Int):List Value:=[pt x.gw,pt x.gg,.int .i64 now,.slice x.sA sn x.sc,.int .i64 cf.bN,.int .i64 cf.eF,.int .i64 cf.dC,.int .i64 cf.base,.int .i64 cf.cap,.slice x.nA nn x.nc,.int .i64 sub]
def jW(ws:List fD)(m:Mg):List fD×Int:=if m.check≠0 then(ws,0) else((zX ws ⟨m.to,m.enc,false⟩).1,if (zX ws ⟨m.to,m.enc,false⟩).2 then 1 else 0)
def DB(m:Mg):Mg:=⟨4,9,m.fr,0,0,0,0,0,[],[],m.key,ez⟩
section
variable (E:Env) (g:Nat) (x:AM) (now:Int) (sn:Nat) (cf:fU) (nn:Nat) (sub:Int) (ws:List fD)
theorem BV(m:Mg)(A:Option Addr)(n c:Nat)(B:Option Addr)(k d:Nat)(hI:Rd E fN A n c m.ids)(hC:Rd E bE B k d m.iS):G E 113 [pt g,.agg (oK m A n c B k d).toArray] [aJ g 121 (wC x now sn cf nn sub),aZ x.gw ws] (cM (.int .i64 (jW ws m).2) [aJ g 121 (wC x now sn cf nn sub),aZ x.gw (jW ws m).1]):=by
 unfold jW;by_cases hc:m.check=0
 ·rw[if_neg (by rw[hc];decide)];have hsz:=Mg.size hc;have put:=λM hI hC=>KQ (E:=M) (m:=m) (A:=A) (n:=n) (c:=c) (B:=B) (k:=k) (d:=d) hI hC hc;have wp:=λM X nx cx hr hnx=>TO M x.gw ws m.to X nx cx m.enc hr hnx;generalize zX ws ⟨m.to,m.enc,false⟩=r at *;obtain⟨ws',ok⟩:=r;dsimp only at wp⊢;cases ok with
  |true =>
   refine t_ func113 ntmps113 ?_;repeat first|refine v_ ?_|intro
   refine C1 put ?_;rintro e H' ⟨O,oc,rfl,rfl⟩;repeat first|refine v_ ?_|intro
   rename_i g3;refine rB (l_ [0,1,2,3,4,5,6,7,8,9] (g_ 10 (l_ [11,12] .nil))) ([aJ g 121 _,aJ g3 195 _]) ?_;repeat first|refine v_ ?_|intro
   refine Ib (λM h1=>wp M O (m.body.length+7) oc h1 (by omega)) ?_;repeat first|refine v_ ?_|intro
   exact B7
  |false =>
   refine t_ func113 ntmps113 ?_;repeat first|refine v_ ?_|intro
   refine C1 put ?_;rintro e H' ⟨O,oc,rfl,rfl⟩;repeat first|refine v_ ?_|intro
   rename_i g3;refine rB (l_ [0,1,2,3,4,5,6,7,8,9] (g_ 10 (l_ [11,12] .nil))) ([aJ g 121 _,aJ g3 195 _]) ?_;repeat first|refine v_ ?_|intro
   refine Ib (λM h1=>wp M O (m.body.length+7) oc h1 (by omega)) ?_;repeat first|refine v_ ?_|intro
   exact B7
 ·rw[if_pos hc];have put:=λM hI hC=>Ks (E:=M) (m:=m) (A:=A) (n:=n) (c:=c) (B:=B) (k:=k) (d:=d) hI hC hc;refine t_ func113 ntmps113 ?_;repeat first|refine v_ ?_|intro
  refine DY put ?_;repeat first|refine v_ ?_|intro
  rename_i g3;refine rB (l_ [0,1,2,3,4,5,6,7,8,9] (g_ 10 (l_ [11,12] .nil))) ([aJ g 121 _,aJ g3 195 _]) ?_;repeat first|refine v_ ?_|intro
  exact B7
end
section
variable (E:Env) (g:Nat) (x:AM) (now:Int) (sn:Nat) (cf:fU) (nn:Nat) (sub:Int) (ws:List fD)
theorem tD(e:Int):G E 50 [.int .i64 e] [] (cM (.agg (⟨e,0,0⟩:wM).cs.toArray) []):=by
 refine t_ func50 ntmps50 ?_;repeat first|refine v_ ?_|intro
 exact Kz
theorem Ix(hb:gE E g (wC x now sn cf nn sub))(hn:nn≤4):G E 49 [pt g] [] (cM (.bool (decide ((0:Int)<nn))) []):=by
 refine t_ func49 ntmps49 ?_;repeat first|refine v_ ?_|intro
 exact B7
theorem EN(r:Int)(hb:gE E g (wC x now sn cf nn sub))(hn:nn≤4)(h1:1≤nn)(hr:r<0∨(nn:Int)≤r):G E 52 [pt g,.int .i64 r] [] (cM (.pointer none) []):=by
 have his:=λM hb=>Ix M g x now sn cf nn sub hb hn;rw[decide_eq_true o_] at his;have hd:decide (0≤r∧r≤(nn:Int) - 1)=false:=decide_eq_false o_;refine t_ func52 ntmps52 ?_;repeat first|refine v_ ?_|intro
 refine eV his ?_;repeat first|refine v_ ?_|intro
 exact B7
theorem qW(r:Nat)(gr:Nat)(hb:gE E g (wC x now sn cf nn sub))(hn:nn≤4)(hG:Rd E vE x.nA nn x.nc x.gs)(hr:x.gs[r]?=some gr):G E 52 [pt g,.int .i64 r] [] (cM (pt gr) []):=by
 have hl:=hG.len;have hlt:=(aAd.1 hr).1;have his:=λM hb=>Ix M g x now sn cf nn sub hb hn;rw[decide_eq_true o_] at his;have hd:decide (0≤(r:Int)∧(r:Int)≤(nn:Int) - 1)=true:=decide_eq_true o_;refine t_ func52 ntmps52 ?_;repeat first|refine v_ ?_|intro
 refine eV his ?_;repeat first|refine v_ ?_|intro
 exact B7
end
def gG(ws:List fD)(r:Int)(l:List dK)(m:Mg):(List fD×Int×List dK)×Int :=
 if (L8 r l ⟨m.key,m.bC⟩).2 then(((jW ws (DB m)).1,(L8 r l ⟨m.key,m.bC⟩).1.1,(L8 r l ⟨m.key,m.bC⟩).1.2),(jW ws (DB m)).2) else((ws,(L8 r l ⟨m.key,m.bC⟩).1.1,(L8 r l ⟨m.key,m.bC⟩).1.2),0)
def uD(now n:Int):Int×wM:=if (1≤n∧n≤1000)∧now+n≤1073741824 then(now+n,⟨0,now+n,0⟩) else(now,⟨4,0,0⟩)
def kA(sub:Int)(n:Nd)(c:aX):Int×Nd×wM :=
 if 48≤sub then(sub,n,⟨3,0,0⟩)
 else if (n.fC c).2.2≠0 then(sub,(n.fC c).1,⟨(n.fC c).2.2,0,0⟩)
 else(sub+1,(n.fC c).1,⟨0,(n.fC c).2.1.id.seq,(cE (n.fC c).1.s.v (n.fC c).2.1.id).1.code⟩)
theorem aHy{n:Nd}{c:aX}(h:(n.fC c).2.2=0):(n.fC c).1.up=true:=by
 unfold Nd.fC at h⊢;split at h
 ·rename_i hu;rw[if_pos hu];split at h
  ·rename_i h1;rw[if_pos h1];split
   ·rw[qU];exact hu
   ·rw[qU];exact hu
  ·rename_i h1;rw[if_neg h1];exact hu
 ·cases h
section
variable (E:Env) (P:List Ov) (g:Nat) (x:AM) (now:Int) (sn:Nat) (cf:fU) (nn:Nat) (sub:Int) (ws:List fD)
theorem LJ(r:Int)(l:List dK)(hl:l.length≤1000000)(m:Mg)(A:Option Addr)(n c:Nat)(B:Option Addr)(k d:Nat):G E 122 [pt g,.agg (oK m A n c B k d).toArray] [aJ g 121 (wC x now sn cf nn sub),aZ x.gw ws,cK x.gg r l] (cM (.int .i64 (gG ws r l m).2) [aJ g 121 (wC x now sn cf nn sub),aZ x.gw (gG ws r l m).1.1,cK x.gg (gG ws r l m).1.2.1 (gG ws r l m).1.2.2]):=by
 have gdo:=λM=>Yg M x.gg r l ⟨m.key,m.bC⟩ hl;have post:=λM=>BV M g x now sn cf nn sub ws (DB m) none 0 0 none 0 0 (Rd.nil _ _) (Rd.nil _ _);unfold gG;generalize L8 r l ⟨m.key,m.bC⟩=q at *;generalize jW ws (DB m)=p at *;obtain⟨⟨r',l'⟩,ok⟩:=q;obtain⟨ws',a⟩:=p;dsimp only at gdo post⊢;cases ok with
 |true =>
  simp only[if_true];refine t_ func122 ntmps122 ?_;repeat first|refine v_ ?_|intro
  rename_i g3;refine rB (l_ [0,1,2,3,4,5,6,7,8] (g_ 9 (n_ 10 .nil))) ([aJ g 121 _,aJ g3 195 _]) ?_;repeat first|refine v_ ?_|intro
  refine eJ gdo ?_;repeat first|refine v_ ?_|intro
  refine bK post ?_;repeat first|refine v_ ?_|intro
  exact B7
 |false =>
  simp only[aCb,if_false];refine t_ func122 ntmps122 ?_;repeat first|refine v_ ?_|intro
  rename_i g3;refine rB (l_ [0,1,2,3,4,5,6,7,8] (g_ 9 (n_ 10 .nil))) ([aJ g 121 _,aJ g3 195 _]) ?_;repeat first|refine v_ ?_|intro
  refine eJ gdo ?_;repeat first|refine v_ ?_|intro
  exact B7
theorem U8(n:Int)(hn:0≤now∧now≤1073741824):G E 58 [pt g,.int .i64 n] [aJ g 121 (wC x now sn cf nn sub)] (cM (.agg (uD now n).2.cs.toArray) [aJ g 121 (wC x (uD now n).1 sn cf nn sub)]):=by
 have fl:=λM=>tD M 4;unfold uD;by_cases h:(1≤n∧n≤1000)∧now+n≤1073741824
 ·rw[if_pos h];have hd:decide (1≤n∧n≤1000)=true:=decide_eq_true h.1;have hlt:=h.2;refine t_ func58 ntmps58 ?_;repeat first|refine v_ ?_|intro
  exact Kz
 ·rw[if_neg h];by_cases h1:1≤n∧n≤1000
  ·have hd:decide (1≤n∧n≤1000)=true:=decide_eq_true h1;have hgt:1073741824<now+n:=o_;refine t_ func58 ntmps58 ?_;repeat first|refine v_ ?_|intro
   refine bK fl ?_;repeat first|refine v_ ?_|intro
   exact Kz
  ·have hd:decide (1≤n∧n≤1000)=false:=decide_eq_false h1;refine t_ func58 ntmps58 ?_;repeat first|refine v_ ?_|intro
   refine bK fl ?_;repeat first|refine v_ ?_|intro
   exact Kz
end
section
variable (E:Env) (P:List Ov) (g gr:Nat) (x:AM) (now:Int) (sn:Nat) (cf:fU) (nn:Nat) (sub:Int) (n:Nd) (k:Int)
theorem Pf(c:aX)(hc:dQ c.n)(hs:0≤sub∧sub≤48):G E 53 [pt g,pt gr,.agg c.cs.toArray] [aJ g 121 (wC x now sn cf nn sub),bZ P gr cf n k,aI P] λe H'=>∃Q,e=.returned (.agg (kA sub n c).2.2.cs.toArray)∧H'=[aJ g 121 (wC x now sn cf nn (kA sub n c).1),bZ (P++Q) gr cf (kA sub n c).2.1 k,aI (P++Q)]:=by
 have fl:=λM e=>tD M e;have sb:=λM=>TN M P gr cf n k c hc;have mono0:cA [bZ P gr cf n k,aI P] [bZ (P++[]) gr cf n k,aI (P++[])]:=by rw[aAc];exact cA.refl
 have hup:=λh=>aHy (n:=n) (c:=c) h;unfold kA;by_cases h48:48≤sub
 ·rw[if_pos h48];refine t_ func53 ntmps53 ?_;repeat first|refine v_ ?_|refine Dr.two ?_ ?_|intro
  refine bK (λM=>fl M 3) ?_;repeat first|refine v_ ?_|refine Dr.two ?_ ?_|intro
  exact cI (H':=[aJ g 121 (wC x now sn cf nn sub),bZ (P++[]) gr cf n k,aI (P++[])]) rfl aF rfl rfl rfl aS rfl (by rw[aAc];exact aA) ⟨[],rfl,rfl⟩
 ·rw[if_neg h48];generalize n.fC c=res at *;obtain⟨n2,c2,code⟩:=res;dsimp only at sb hup⊢;by_cases h0:code=0
  ·subst h0;rw[if_neg sD];have hu:=hup rfl;refine t_ func53 ntmps53 ?_;repeat first|refine v_ ?_|refine Dr.two ?_ ?_|intro
   refine bW sb ?_;rintro e H' ⟨Q,rfl,rfl⟩;repeat first|refine v_ ?_|refine Dr.two ?_ ?_|intro
   rename_i g5 g6;have st:=λM=>wW M (P++Q) gr cf n2 k;simp only[hu,if_true] at st;refine C.BI (X:=Ov×Nat) (λy=>[(5,pt g5),(6,pt g6),(8,pt y.2)]) (λy=>[aJ y.2 141 y.1.cs,aJ g5 34 c2.cs,aJ g6 36 CQ.cs,aJ g 121 (wC x now sn cf nn (sub+1)),bZ (P++Q) gr cf n2 k,aI (P++Q)]) (λy=>y.1.d=(cE n2.s.v c2.id).1) ?_ ?_
   ·refine rB (l_ [0,3,4] (.two 1 (.two 2 (.two 5 (l_ [6,7,8,9] (g_ 10 (g_ 11 (l_ [12,13] .nil)))) 10 (g_ 5 (l_ [6,7,8,9] (g_ 11 (l_ [12,13] .nil))))) 10 (g_ 2 (g_ 5 (l_ [6,7,8,9] (g_ 11 (l_ [12,13] .nil)))))) 10 (g_ 1 (g_ 2 (g_ 5 (l_ [6,7,8,9] (g_ 11 (l_ [12,13] .nil)))))))) ([aJ g5 34 _]) ?_;repeat first|refine v_ ?_|intro
    refine Dr.two ?_ ?_
    ·refine yB rfl sD bA sK aC (λM hE=>st M) ?_;rintro e H' ⟨gs,rfl,rfl⟩;repeat first|refine v_ ?_|intro
     refine Dr.two ?_ ?_
     ·refine yB rfl sD bA sK aC (λM hE=>qQ M (P++Q) gs n2.s) ?_;rintro e H' ⟨gl,rfl,rfl⟩;repeat first|refine v_ ?_|intro
      refine Dr.two ?_ ?_
      ·refine yB rfl sD bA sK aC (λM hE=>yL M (P++Q) gl n2.s.v c2.id) ?_;rintro e H' ⟨o,ho,rfl,rfl⟩;repeat first|refine cY ?_|intro
       rename_i g8;exact⟨(o,g8),aD,aA,ho⟩
      ·repeat first|refine cY ?_|intro
       refine iO (λM=>yL M (P++Q) gl n2.s.v c2.id) ?_;rintro e H' ⟨o,ho,rfl,rfl⟩;repeat first|refine cY ?_|intro
       rename_i g8;exact⟨(o,g8),aD,aA,ho⟩
     ·repeat first|refine cY ?_|intro
      refine iO (λM=>qQ M (P++Q) gs n2.s) ?_;rintro e H' ⟨gl,rfl,rfl⟩;repeat first|refine cY ?_|intro
      refine iO (λM=>yL M (P++Q) gl n2.s.v c2.id) ?_;rintro e H' ⟨o,ho,rfl,rfl⟩;repeat first|refine cY ?_|intro
      rename_i g8;exact⟨(o,g8),aD,aA,ho⟩
    ·repeat first|refine cY ?_|intro
     refine iO st ?_;rintro e H' ⟨gs,rfl,rfl⟩;repeat first|refine cY ?_|intro
     refine iO (λM=>qQ M (P++Q) gs n2.s) ?_;rintro e H' ⟨gl,rfl,rfl⟩;repeat first|refine cY ?_|intro
     refine iO (λM=>yL M (P++Q) gl n2.s.v c2.id) ?_;rintro e H' ⟨o,ho,rfl,rfl⟩;repeat first|refine cY ?_|intro
     rename_i g8;exact⟨(o,g8),aD,aA,ho⟩
   ·rintro⟨o,g8⟩ F ho;dsimp only at ho⊢;have hco:(cE n2.s.v c2.id).1.code=o.code:=by rw[←ho];rfl
    rw[hco];repeat first|refine v_ ?_|refine Dr.two ?_ ?_|intro
    exact cI rfl aF rfl rfl rfl aS rfl aA (⟨Q,rfl,rfl⟩)
  ·rw[if_pos h0];refine t_ func53 ntmps53 ?_;repeat first|refine v_ ?_|refine Dr.two ?_ ?_|intro
   refine bW sb ?_;rintro e H' ⟨Q,rfl,rfl⟩;repeat first|refine v_ ?_|refine Dr.two ?_ ?_|intro
   refine bK (λM=>fl M code) ?_;repeat first|refine v_ ?_|refine Dr.two ?_ ?_|intro
   exact cI rfl aF rfl rfl rfl aS rfl aA (⟨Q,rfl,rfl⟩)
end
def yI(nn:Nat)(ws:List fD)(n:Nd)(st:cH):(List fD×Nd)×wM :=
 if (st.i<0∨(nn:Int)≤st.i)∨st.i=st.r then((ws,n),⟨4,0,0⟩)
 else if n.sync.2≠0 then((ws,n.sync.1),⟨n.sync.2,0,0⟩)
 else(((jW ws (Ll n.sync.1.s st.i)).1,n.sync.1),⟨0,(jW ws (Ll n.sync.1.s st.i)).2,0⟩)
theorem J3{n:Nd}(h:n.sync.2=0):n.sync.1.up=true:=by
 unfold Nd.sync at h⊢;split at h
 ·rename_i hu;rw[if_pos hu];split at h
  ·rename_i h1;rw[if_pos h1]
  ·cases h
 ·cases h
section
variable (E:Env) (P:List Ov) (g gr:Nat) (x:AM) (now:Int) (sn:Nat) (cf:fU) (nn:Nat) (sub:Int) (n:Nd) (k:Int) (ws:List fD)
theorem Xw(st:cH)(hn:nn≤4)(h1:1≤nn)(hk:k≤10000000000000)(hgs:x.gs.length=nn):G E 55 [pt g,pt gr,.agg st.cs.toArray] [aJ g 121 (wC x now sn cf nn sub),bZ P gr cf n k,aZ x.gw ws,own vE x.nA nn x.nc x.gs] (cM (.agg (yI nn ws n st).2.cs.toArray) [aJ g 121 (wC x now sn cf nn sub),bZ P gr cf (yI nn ws n st).1.2 (k+2048),aZ x.gw (yI nn ws n st).1.1,own vE x.nA nn x.nc x.gs]):=by
 have fl:=λM e=>tD M e;have sy:=λM=>KU M P gr cf n k hk;have hup:=J3 (n:=n);have mono:cA [bZ P gr cf n k] [bZ P gr cf n (k+2048)]:=by
  have:=bZ.mono (P:=P) (Q:=[]) (g:=gr) (cf:=cf) (n:=n) (show k≤k+2048 by omega);rw[aAc] at this;exact this
 unfold yI;by_cases hr:st.i<0∨(nn:Int)≤st.i
 ·rw[if_pos (.inl hr)];have atn:=λM hb=>EN M g x now sn cf nn sub st.i hb hn h1 hr;refine t_ func55 ntmps55 ?_;repeat first|refine v_ ?_|intro
  refine eV atn ?_;repeat first|refine v_ ?_|intro
  refine bK (λM=>fl M 4) ?_;repeat first|refine v_ ?_|intro
  exact cI (H':=[aJ g 121 (wC x now sn cf nn sub),bZ P gr cf n (k+2048),aZ x.gw ws,own vE x.nA nn x.nc x.gs]) rfl aF rfl rfl rfl aS rfl (aB.trans (aB.imp mono aC) aA) ⟨rfl,rfl⟩
 ·obtain⟨kd,rr,ii,nm,cc⟩:=st;dsimp only at hr⊢;obtain⟨j,rfl⟩:=aCf (show 0≤ii by omega);have hlt:j<x.gs.length:=o_;have aty:=λM hb hG=>qW M g x now sn cf nn sub j (x.gs[j]'hlt) hb hn hG (aAa hlt);generalize x.gs[j]'hlt=gj at aty;by_cases he:(j:Int)=rr
  ·rw[if_pos (.inr he)];refine t_ func55 ntmps55 ?_;repeat first|refine v_ ?_|intro
   refine DY aty ?_;repeat first|refine v_ ?_|intro
   refine bK (λM=>fl M 4) ?_;repeat first|refine v_ ?_|intro
   exact cI (H':=[aJ g 121 (wC x now sn cf nn sub),bZ P gr cf n (k+2048),aZ x.gw ws,own vE x.nA nn x.nc x.gs]) rfl aF rfl rfl rfl aS rfl (aB.trans (aB.imp mono aC) aA) ⟨rfl,rfl⟩
  ·rw[if_neg o_];clear mono;generalize n.sync=res at *;obtain⟨n2,code⟩:=res;dsimp only at sy hup⊢;by_cases h0:code=0
   ·subst h0;rw[if_neg sD];have hu:=hup rfl;have st2:=λM=>wW M P gr cf n2 (k+2048);simp only[hu,if_true] at st2;have post:=λM=>BV M g x now sn cf nn sub ws (Ll n2.s j) none 0 0 none 0 0 (Rd.nil _ _) (Rd.nil _ _);generalize jW ws (Ll n2.s j)=p at *;obtain⟨ws2,a⟩:=p;dsimp only at post⊢;refine t_ func55 ntmps55 ?_;repeat first|refine v_ ?_|intro
    refine DY aty ?_;repeat first|refine v_ ?_|intro
    refine bK sy ?_;repeat first|refine v_ ?_|intro
    rename_i g5 g6;refine rB (l_ [0,1,2,3,5,6] (g_ 4 (g_ 7 (g_ 8 (n_ 9 (g_ 10 .nil)))))) ([aJ g5 39 _]) ?_;repeat first|refine v_ ?_|intro
    refine iO st2 ?_;rintro e H' ⟨gs,rfl,rfl⟩;repeat first|refine v_ ?_|intro
    refine eJ (λM=>Zf M P gs n2.s j) ?_;repeat first|refine v_ ?_|intro
    refine eJ post ?_;repeat first|refine v_ ?_|intro
    exact Kz
   ·rw[if_pos h0];refine t_ func55 ntmps55 ?_;repeat first|refine v_ ?_|intro
    refine DY aty ?_;repeat first|refine v_ ?_|intro
    refine bK sy ?_;repeat first|refine v_ ?_|intro
    refine bK (λM=>fl M code) ?_;repeat first|refine v_ ?_|intro
    exact Kz
end
def AI:Nat→Nd→Nat→Nd×wM
 |0,n,i=>(n,⟨0,i,0⟩)
 |k+1,n,i=>match n.s.v.t[0]? with
  |none=>(n,⟨0,i,0⟩)
  |some c=>if (n.take [.rI c.id]).2.2=0 then AI k (n.take [.rI c.id]).1 (i+1) else((n.take [.rI c.id]).1,⟨(n.take [.rI c.id]).2.2,i,0⟩)
def mT(n:Nd)(dC:Int):Nd×wM:=if 1≤dC∧dC≤16 then(if n.up then AI dC.toNat n 0 else(n,⟨19,0,0⟩)) else(n,⟨4,0,0⟩)
theorem Gn:∀(l:List Rc) (n:Nd) (i:Nat),(n.AQ l i).1.up=n.up
 | [],_,_=>rfl
 |x::l,n,i=>by
  unfold Nd.AQ;split
  ·rw[Gn l,qU]
  ·exact qU n x
theorem Rh(n:Nd)(l:List Rc):(n.take l).1.up=n.up:=by
 unfold Nd.take;split
 ·exact Gn l n 0
 ·rfl
section
variable (E:Env) (P:List Ov) (g gr:Nat) (x:AM) (now:Int) (sn:Nat) (cf:fU) (nn:Nat) (sub:Int) (n:Nd) (k:Int)
theorem Ol(dC:Int)(_hn:nn≤4)(_h1:1≤nn)(hgs:x.gs[0]?=some gr):G E 56 [pt g,.int .i64 dC] [aJ g 121 (wC x now sn cf nn sub),bZ P gr cf n k,own vE x.nA nn x.nc x.gs,aI P] λe H'=>∃Q,e=.returned (.agg (mT n dC).2.cs.toArray)∧H'=[aJ g 121 (wC x now sn cf nn sub),bZ (P++Q) gr cf (mT n dC).1 k,own vE x.nA nn x.nc x.gs,aI (P++Q)]:=by
 have fl:=λM e=>tD M e;unfold mT;by_cases hm:1≤dC∧dC≤16
 ·rw[if_pos hm];have hd:decide (1≤dC∧dC≤16)=true:=decide_eq_true hm;obtain⟨m,rfl⟩:=aCf (show 0≤dC by omega);have up:=λM=>TI M P gr cf n k;by_cases hu:n.up=true
  ·rw[if_pos hu];rw[hu] at up;rw[aAu];refine t_ func56 ntmps56 ?_;repeat first|refine v_ ?_|intro
   refine bK up ?_;repeat first|refine v_ ?_|intro
   rename_i g4;refine C.scan (Y:=Nd×List Ov) (l:=List.range m) (show m=(List.range m).length by rw[aFu]) (λi y=>[(1,.int .i64 m),(4,pt g4),(5,pt gr),(25,.int .i64 m),(26,.int .i64 i)])
    (λi y=>[aJ g4 36 CQ.cs,aJ g 121 (wC x now sn cf nn sub),bZ (P++y.2) gr cf y.1 k,own vE x.nA nn x.nc x.gs,aI (P++y.2)]) (λi y=>y.1.up=true∧AI m n 0=AI (m - i) y.1 i) (n,[]) aD (by dsimp only;rw[aAc];exact aA) ⟨hu,rfl⟩ ?_ ?_
   ·rintro i ⟨n2,Q⟩ j F hi hj ⟨hu2,hc⟩;dsimp only at hu2 hc⊢;have st:=λM=>wW M (P++Q) gr cf n2 k;simp only[hu2,if_true] at st;have hlt:i<m:=by have:=(aAd.1 hj).1;rwa [aFu] at this
    obtain⟨q,hq⟩:∃q,m - i=q+1:=⟨m - i - 1,by omega⟩
    rw[hq,AI] at hc;have fst:=λM gl=>Ub M (P++Q) gl n2.s.v;cases ht:n2.s.v.t with
    |nil =>
     rw[ht] at hc fst;simp only[List.getElem?_nil] at hc;rw[hc];repeat first|refine v_ ?_|intro
     refine bW st ?_;rintro e H' ⟨gs,rfl,rfl⟩;repeat first|refine v_ ?_|intro
     refine bW (λM=>qQ M (P++Q) gs n2.s) ?_;rintro e H' ⟨gl,rfl,rfl⟩;repeat first|refine v_ ?_|intro
     refine bK (λM=>fst M gl) ?_;repeat first|refine v_ ?_|intro
     exact cI rfl aF rfl rfl rfl aS rfl aA (⟨Q,rfl,rfl⟩)
    |cons c t =>
     rw[ht] at hc fst;simp only[List.getElem?_cons_zero,aBe] at hc fst;have tk:=λM A c2 (hr:Rd M jE A 1 c2 [⟨2,mW,c.id,zR,0⟩])=>QP M (P++Q) gr cf n2 k A 1 c2 [.rI c.id] hr (by simp[Rc.ok]) o_;have hu3:=Rh n2 [.rI c.id];generalize n2.take [.rI c.id]=res at *;obtain⟨n3,z,code⟩:=res;dsimp only at hc tk hu3;by_cases h0:code=0
     ·subst h0;rw[if_pos rfl] at hc;repeat first|refine v_ ?_|intro
      refine bW st ?_;rintro e H' ⟨gs,rfl,rfl⟩;repeat first|refine v_ ?_|intro
      refine bW (λM=>qQ M (P++Q) gs n2.s) ?_;rintro e H' ⟨gl,rfl,rfl⟩;repeat first|refine v_ ?_|intro
      refine bK (λM=>fst M gl) ?_;repeat first|refine v_ ?_|intro
      refine bK (λM=>oS M c.id) ?_;repeat first|refine v_ ?_|intro
      refine dX (λM=>tk M _ _) ?_;rintro e H' ⟨Q2,rfl,rfl⟩;repeat first|refine v_ ?_|intro
      exact⟨(n3,Q++Q2),aD,(by dsimp only;rw[←aAb];exact aA),hu3.trans hu2,by rw[show m - (i+1)=q by omega];exact hc⟩
     ·rw[if_neg h0] at hc;rw[hc];repeat first|refine v_ ?_|intro
      refine bW st ?_;rintro e H' ⟨gs,rfl,rfl⟩;repeat first|refine v_ ?_|intro
      refine bW (λM=>qQ M (P++Q) gs n2.s) ?_;rintro e H' ⟨gl,rfl,rfl⟩;repeat first|refine v_ ?_|intro
      refine bK (λM=>fst M gl) ?_;repeat first|refine v_ ?_|intro
      refine bK (λM=>oS M c.id) ?_;repeat first|refine v_ ?_|intro
      refine dX (λM=>tk M _ _) ?_;rintro e H' ⟨Q2,rfl,rfl⟩;repeat first|refine v_ ?_|intro
      exact cI (H':=[aJ g 121 (wC x now sn cf nn sub),bZ (P++(Q++Q2)) gr cf n3 k,own vE x.nA nn x.nc x.gs,aI (P++(Q++Q2))]) rfl aF rfl rfl rfl aS rfl (by rw[←aAb];exact aA) ⟨Q++Q2,rfl,rfl⟩
   ·rintro⟨n2,Q⟩ F ⟨hu2,hc⟩;dsimp only at hu2 hc⊢;rw[aEi,AI] at hc;rw[hc];repeat first|refine v_ ?_|intro
    exact cI rfl aF rfl rfl rfl aS rfl aA (⟨Q,rfl,rfl⟩)
  ·rw[if_neg hu];rw[Bool.eq_false_iff.2 hu] at up;refine t_ func56 ntmps56 ?_;repeat first|refine v_ ?_|intro
   refine bK up ?_;repeat first|refine v_ ?_|intro
   refine bK (λM=>fl M 19) ?_;repeat first|refine v_ ?_|intro
   exact cI (H':=[aJ g 121 (wC x now sn cf nn sub),bZ (P++[]) gr cf n k,own vE x.nA nn x.nc x.gs,aI (P++[])]) rfl aF rfl rfl rfl aS rfl (by rw[aAc];exact aA) ⟨[],rfl,rfl⟩
 ·rw[if_neg hm];have hd:decide (1≤dC∧dC≤16)=false:=decide_eq_false hm;refine t_ func56 ntmps56 ?_;repeat first|refine v_ ?_|intro
  refine bK (λM=>fl M 4) ?_;repeat first|refine v_ ?_|intro
  exact cI (H':=[aJ g 121 (wC x now sn cf nn sub),bZ (P++[]) gr cf n k,own vE x.nA nn x.nc x.gs,aI (P++[])]) rfl aF rfl rfl rfl aS rfl (by rw[aAc];exact aA) ⟨[],rfl,rfl⟩
end
def Vl(r:Int)(q:dK):Mg:=⟨3,r,9,0,0,0,0,0,[],[],q.key,q.bC⟩
def CC(r now:Int)(z:List fD×List fM)(q:dK):List fD×List fM:=((jW z.1 (Vl r q)).1,z.2++[⟨r,now,q.key,q.bC⟩])
def jN(r now:Int)(ws:List fD)(aW:List fM)(l:List dK):List fD×List fM:=l.foldl (CC r now) (ws,aW)
theorem En{r now:Int}{ws:List fD}{aW:List fM}{l:List dK}{i:Nat}{q:dK}(h:l[i]?=some q):jN r now ws aW (l.take (i+1))=CC r now (jN r now ws aW (l.take i)) q:=iX h
theorem AV(r now:Int)(ws:List fD)(aW:List fM)(l:List dK):(jN r now ws aW l).2.length=aW.length+l.length:=by
 have:∀(l:List dK) (z:List fD×List fM),(l.foldl (CC r now) z).2.length=z.2.length+l.length:=by
  intro l
  induction l with
  |nil=>exact λz=>rfl
  |cons q l ih=>intro z;rw[aFj,ih];unfold CC;simp;omega
 exact this l (ws,aW)
theorem De(now:Int):∀(l:List dK) (n:Nd) (acc:List dK),(n.tries now l acc).2.1.length≤acc.length+l.length
 | [],_,acc=>by unfold Nd.tries;simp
 |q::l,n,acc=>by
  unfold Nd.tries;split
  ·refine aBw (De now l _ _) ?_;simp;omega
  ·simp
theorem HY{n:Nd}(h:n.ok)(cf:fU)(now:Int):(n.qD cf now).2.1.length≤48:=by
 unfold Nd.qD;split
 ·rename_i hu;have hnp:=(h.gd hu).1.np;have hrl:=D8 n.s cf now;split
  ·have:=De now (n.s.ready cf now) n [];simp at this;dsimp only;omega
  ·exact aAh _
 ·exact aAh _
def oO(cf:fU)(now:Int)(ws:List fD)(aW:List fM)(n:Nd)(r:Int):(List fD×List fM×Nd)×wM :=
 (((jN r now ws aW (n.qD cf now).2.1).1,(jN r now ws aW (n.qD cf now).2.1).2,(n.qD cf now).1),⟨(n.qD cf now).2.2,(n.qD cf now).2.1.length,0⟩)
section
variable (E:Env) (P:List Ov) (g gr:Nat) (x:AM) (now:Int) (cf:fU) (nn:Nat) (sub:Int) (n:Nd) (k:Int) (ws:List fD) (aW:List fM)
theorem Uh(r:Int)(hnow:dQ now)(hk:k≤10000000000000)(hsl:aW.length≤100000000):G E 57 [pt g,pt gr,.int .i64 r] [aJ g 121 (wC x now aW.length cf nn sub),bZ P gr cf n k,aZ x.gw ws,own mK x.sA aW.length x.sc aW,aI P] λe H'=>∃Q sA sc,e=.returned (.agg (oO cf now ws aW n r).2.cs.toArray)∧H'=[aJ g 121 (wC ⟨x.gw,x.gg,sA,sc,x.nA,x.nc,x.gs⟩ now (oO cf now ws aW n r).1.2.1.length cf nn sub),bZ (P++Q) gr cf (oO cf now ws aW n r).1.2.2 (k+2048),aZ x.gw (oO cf now ws aW n r).1.1,own mK sA (oO cf now ws aW n r).1.2.1.length sc (oO cf now ws aW n r).1.2.1,aI (P++Q)]:=by
 refine aK.Y1 (p:=λ_:Nh=>n.ok) (l:=O4 P gr cf n k) (Has.aM Has.aN) λ⟨_,hok⟩=>?_;have hpl:=HY hok cf now;have pmp:=λM=>YJ M P gr cf n k now hnow hk;unfold oO;generalize n.qD cf now=res at *;obtain⟨n2,reqs,code⟩:=res;dsimp only at hpl pmp⊢;refine t_ func57 ntmps57 ?_;repeat first|refine v_ ?_|intro
 refine bW pmp ?_;rintro e H' ⟨Q,A,m,c,hm,hmc,rfl,rfl⟩;repeat first|refine v_ ?_|intro
 rename_i g6;have hmax:=fX;refine C.scan (Y:=Option Addr×Nat) (l:=reqs) hm (λi y=>[(0,pt g),(2,.int .i64 r),(6,pt g6),(7,.slice A m c),(8,.int .i64 code),(21,.slice A m c),(22,.int .i64 m),(23,.int .i64 i)])
  (λi y=>[aJ g6 36 CQ.cs,own cP A m c reqs,aJ g 121 (wC ⟨x.gw,x.gg,y.1,y.2,x.nA,x.nc,x.gs⟩ now (jN r now ws aW (reqs.take i)).2.length cf nn sub),aZ x.gw (jN r now ws aW (reqs.take i)).1,own mK y.1 (jN r now ws aW (reqs.take i)).2.length y.2 (jN r now ws aW (reqs.take i)).2,bZ (P++Q) gr cf n2 (k+2048),aI (P++Q)]) (λ_ _=>True) (x.sA,x.sc) aD (by dsimp only[List.take_zero,jN,List.foldl_nil];exact aA) trivial ?_ ?_
 ·rintro i ⟨sA,sc⟩ q F hi hq -;dsimp only;have hlen:=AV r now ws aW (reqs.take i);rw[aAg] at hlen;rw[En hq];generalize jN r now ws aW (reqs.take i)=z at *;obtain⟨ws1,s1⟩:=z;dsimp only[CC] at hlen⊢;rw[aAe,aDa];have post:=λM=>BV M g ⟨x.gw,x.gg,sA,sc,x.nA,x.nc,x.gs⟩ now s1.length cf nn sub ws1 (Vl r q) none 0 0 none 0 0 (Rd.nil _ _) (Rd.nil _ _);generalize jW ws1 (Vl r q)=p at *;obtain⟨ws2,a⟩:=p;dsimp only at post⊢;repeat first|refine v_ ?_|intro
  rename_i g10;refine rB (l_ [0,1,2,3,4,5,6,7,8] (g_ 9 .nil)) ([aJ g 121 _,aJ g10 79 _]) ?_;repeat first|refine v_ ?_|intro
  refine eJ post ?_;repeat first|refine v_ ?_|intro
  refine C.bL 22 (l_ [0,1,2,3,4,5,6,7,8,9,10,11,12,13,14,15,16] (g_ 17 (g_ 18 (l_ [19,20,21] (g_ 22 .nil))))) ([aJ g 121 _,aJ g10 79 _]) q_ q_ aA ?_;repeat first|refine v_ ?_|intro
  refine Dr.Aw rfl (by rintro k ⟨⟩;decide) bA (S.QZ (T:=mK) (e1:=(⟨r,now,q.key,q.bC⟩:fM)) rfl eS rfl FV (by rfl) sD) ?_;rintro v H' ⟨gz,rfl,rfl⟩;refine⟨aA,?_⟩;repeat first|refine v_ ?_|intro
  rename_i sA' sc' h3 h4;exact⟨(sA',sc'),aD,aA,trivial⟩
 ·rintro⟨sA,sc⟩ F -;dsimp only;rw[hm,aAo];repeat first|refine v_ ?_|intro
  exact cI rfl aF rfl rfl rfl aS rfl aA (⟨Q,sA,sc,rfl,rfl⟩)
end
def ZW(ws:List fD)(i:Int):Int:=((xB ws i).map fD.to).getD (-1)
def FC(ws:List fD)(i:Int):Bool:=((xB ws i).map fD.broken).getD false
def NZ(ws:List fD)(i:Int):List fD:=match xB ws i with
 |none=>ws
 |some _=>cR ws i
def lP(ws:List fD)(st:cH):List fD×wM :=
 if ZW ws st.i<0 then(ws,⟨14,0,0⟩)
 else if st.kind=8 then(NZ ws st.i,⟨0,0,0⟩)
 else if st.kind=9 then((Co ws st.i).1,⟨if (Co ws st.i).2 then 0 else 10,0,0⟩)
 else if FC ws st.i then(ws,⟨9,0,0⟩)
 else((CU ws st.i st.n).1,⟨if (CU ws st.i st.n).2 then 0 else 4,0,0⟩)
section
variable (E:Env) (g:Nat) (x:AM) (now:Int) (sn:Nat) (cf:fU) (nn:Nat) (sub:Int) (ws:List fD)
end
noncomputable def wF(r:Int)(n:Nd)(st:cH):(Int×Nd)×wM :=
 if st.kind=11 then(if 255<st.n then((r,n),⟨4,0,0⟩) else((dF st.n 0 255,n),⟨0,0,0⟩))
 else if st.kind=12 then(if n.up then((r,n.CA),⟨0,0,0⟩) else((r,n),⟨19,0,0⟩))
 else if st.kind=13 then((r,n.rO.1),⟨n.rO.2,0,0⟩)
 else if st.kind=15 then((r,n.pack.1),⟨n.pack.2,0,0⟩)
 else if st.kind=14 then(if 4096<st.n then((r,n),⟨4,0,0⟩) else if n.up then((r,n.arm (st.n - 1)),⟨0,0,0⟩) else((r,n),⟨19,0,0⟩))
 else((r,n),⟨0,0,0⟩)
theorem bZ.qK{P:List Ov}{g:Nat}{cf:fU}{n:Nd}{k k':Int}(h:k≤k'):cA [bZ P g cf n k] [bZ P g cf n k']:=by
 have:=bZ.mono (P:=P) (Q:=[]) (g:=g) (cf:=cf) (n:=n) h;rw[aAc] at this;exact this
section
variable (E:Env) (P:List Ov) (g gr:Nat) (x:AM) (now:Int) (sn:Nat) (cf:fU) (nn:Nat) (sub:Int) (n:Nd) (k:Int) (r:Int) (l:List dK)
end
def lR(s:Sv)(m:Mg):Mg:=if answers s m then uN s m else mz
def dG(ws:List fD)(n:Nd)(m:Mg):(List fD×Nd)×wM :=
 if m.kind=1 then
  (if n.sync.2≠0 then((ws,n.sync.1),⟨0,0,0⟩) else(((jW ws (lR n.sync.1.s m)).1,n.sync.1),⟨0,(jW ws (lR n.sync.1.s m)).2,0⟩))
 else if m.kind=2 then((ws,(n.take (kL n.s m)).1),⟨(n.take (kL n.s m)).2.2,(n.take (kL n.s m)).2.1,0⟩)
 else if (n.s.doc (.qJ m.key)).2≠0 then((ws,n),⟨0,0,0⟩)
 else((ws,(n.take [.qJ m.key]).1),⟨(n.take [.qJ m.key]).2.2,(n.take [.qJ m.key]).2.1,0⟩)
theorem Rd.front{α:Type}{E:Env}{T:Ty α}{A:Option Addr}{a c:Nat}{l:List α}(h:Rd E T A a c l)(k:Nat):Rd E T A (min a k) (min a k) (l.take k):=by
 have hl:=h.len;have hc:=h.cap;have h2:=h.upto (k:=min a k) (m:=min a k) o_ (aAf _) o_;by_cases hk:k≤a
 ·rw[aFe hk] at h2⊢;exact h2
 ·rw[aBr o_] at h2⊢;rw[aAj o_] at h2⊢;exact h2
theorem JI{s:Sv}{l:List aX}{x:Rc}(h:x∈(tryAll s l).2):∃c∈l,x=.lI c:=by
 have:∀(l:List aX) (z:Sv×List Rc),x∈(l.foldl (λz c=>eE z (.lI c)) z).2→x∈z.2∨∃c∈l,x=.lI c:=by
  intro l
  induction l with
  |nil=>exact λz h=>.inl h
  |cons c l ih =>
   intro z h;rw[aFj] at h;rcases ih _ h with h|⟨d,hd,rfl⟩
   ·unfold eE at h;dsimp only at h;split at h
    ·rcases aBg.1 h with h|h
     ·exact .inl h
     ·exact .inr ⟨c,aBo,aAp.1 h⟩
    ·exact .inl h
   ·exact .inr ⟨d,aBl _ hd,rfl⟩
 rcases this l (s,[]) h with h|h
 ·cases h
 ·exact h
theorem D9{x:Rc}:∀ {l:List bJ} {s:Sv} {out:List Rc},x∈comms s out l→x∈out∨∃a,x=.rI a
 | [],_,_,h=>.inl h
 |a::l,s,out,h=>by
  unfold comms at h;split at h
  ·rcases D9 h with h|h
   ·rcases aBg.1 h with h|h
    ·exact .inl h
    ·exact .inr ⟨a,aAp.1 h⟩
   ·exact .inr h
  ·exact .inl h
theorem Pt{s:Sv}{m:Mg}(h:m.ok):∀x∈kL s m,x.ok:=by
 intro x hx;unfold kL at hx;split at hx
 ·rename_i hcond;obtain⟨_,_,_,f4,_⟩:=Mg.Ei hcond.1 hcond.2.1;have h1:∀x∈(tryAll s m.iS).2,x.ok:=λx hx=>by
   obtain⟨c,hc,rfl⟩:=JI hx;exact Jj (aDm.1 f4 c hc) (h.1 c hc)
  split at hx
  ·exact h1 x hx
  ·rcases D9 hx with hx|⟨a,rfl⟩
   ·exact h1 x hx
   ·trivial
 ·cases hx
theorem aK.pre{P:Program}{E:Env}{f:FuncId}{args:Array Value}{H H2:List aL}{Q:Ending→List aL→Prop}(hc:aB E H H2)(k:aK P E f args H2 Q):aK P E f args H Q:=λhd w hw=>k hd w (hc w hw)
section
variable (E:Env) (P:List Ov) (g gr:Nat) (x:AM) (now:Int) (sn:Nat) (cf:fU) (nn:Nat) (sub:Int) (n:Nd) (k:Int) (ws:List fD)
theorem Ss(m:Mg)(A:Option Addr)(na c:Nat)(B:Option Addr)(nb d:Nat)(hI:Rd E fN A na c m.ids)(hC:Rd E bE B nb d m.iS)(hok:m.ok)(hu:n.up=true)(h2:m.kind=2):G E 123 [pt g,pt gr,.agg (oK m A na c B nb d).toArray] [aJ g 121 (wC x now sn cf nn sub),bZ P gr cf n k,aZ x.gw ws,aI P] λe H'=>∃Q,e=.returned (.agg (dG ws n m).2.cs.toArray)∧H'=[aJ g 121 (wC x now sn cf nn sub),bZ (P++Q) gr cf (dG ws n m).1.2 k,aZ x.gw (dG ws n m).1.1,aI (P++Q)]:=by
 have st:=λM=>wW M P gr cf n k;simp only[hu,if_true] at st;unfold dG;rw[if_neg o_,if_pos h2];have hto:=Pt (s:=n.s) (m:=m) hok;have tkk:=λM gs hI hC=>Xg M P gs n.s m A na c B nb d hI hC hok;have tk:=λ(M:Env) Q X qc (hr:Rd M jE X (kL n.s m).length qc ((kL n.s m).map Rc.r)) h100=>aK.pre (show aB M [bZ P gr cf n k,aI (P++Q)] [bZ (P++Q) gr cf n k,aI (P++Q)] from aB.imp (bZ.mono (aCd k)) aC) (QP M (P++Q) gr cf n k X (kL n.s m).length qc (kL n.s m) hr hto h100);generalize kL n.s m=tl at *;generalize n.take tl=res at *;obtain⟨n2,z,code⟩:=res;dsimp only at tk⊢;refine t_ func123 ntmps123 ?_;repeat first|refine v_ ?_|intro
 rename_i g5 g6;refine rB (l_ [0,2] (g_ 1 (g_ 3 (n_ 4 .nil)))) ([aJ g5 195 _]) ?_;repeat first|refine v_ ?_|intro
 refine iO st ?_;rintro e H' ⟨gs,rfl,rfl⟩;repeat first|refine v_ ?_|intro
 refine OW (λM=>tkk M gs) ?_;rintro e H' ⟨Q,X,qc,h1,h100,rfl,rfl⟩;repeat first|refine v_ ?_|intro
 refine dX (λM h1=>tk M Q X qc h1 (by omega)) ?_;rintro e H' ⟨Q2,rfl,rfl⟩;repeat first|refine v_ ?_|intro
 exact cI (H':=[aJ g 121 (wC x now sn cf nn sub),bZ (P++(Q++Q2)) gr cf n2 k,aZ x.gw ws,aI (P++(Q++Q2))]) rfl aF rfl rfl rfl aS rfl (by rw[←aAb];exact aA) ⟨Q++Q2,rfl,rfl⟩
end
section
variable (E:Env) (P:List Ov) (g gr:Nat) (x:AM) (now:Int) (sn:Nat) (cf:fU) (nn:Nat) (sub:Int) (n:Nd) (k:Int) (ws:List fD)
theorem Sq(m:Mg)(A:Option Addr)(na c:Nat)(B:Option Addr)(nb d:Nat)(hu:n.up=true)(h1:m.kind≠1)(h2:m.kind≠2):G E 123 [pt g,pt gr,.agg (oK m A na c B nb d).toArray] [aJ g 121 (wC x now sn cf nn sub),bZ P gr cf n k,aZ x.gw ws,aI P] λe H'=>∃Q,e=.returned (.agg (dG ws n m).2.cs.toArray)∧H'=[aJ g 121 (wC x now sn cf nn sub),bZ (P++Q) gr cf (dG ws n m).1.2 k,aZ x.gw (dG ws n m).1.1,aI (P++Q)]:=by
 have st:=λM=>wW M P gr cf n k;simp only[hu,if_true] at st;unfold dG;rw[if_neg h1,if_neg h2];have doo:=λM gs=>Sz M P gs n.s (.qJ m.key) trivial;have tk:=λ(M:Env) Q X qc (hr:Rd M jE X 1 qc [⟨4,mW,⟨0,0⟩,m.key,0⟩])=>aK.pre (show aB M [bZ P gr cf n k,aI (P++Q)] [bZ (P++Q) gr cf n k,aI (P++Q)] from aB.imp (bZ.mono (aCd k)) aC) (QP M (P++Q) gr cf n k X 1 qc [.qJ m.key] hr (by simp[Rc.ok]) o_);generalize n.take [.qJ m.key]=res at *;obtain⟨n2,z,code⟩:=res;generalize n.s.doc (.qJ m.key)=dd at *;obtain⟨s2,cd⟩:=dd;dsimp only at tk doo⊢;have hget:([⟨4,mW,⟨0,0⟩,m.key,0⟩]:List pD)[0]?=some ⟨4,mW,⟨0,0⟩,m.key,0⟩:=rfl;by_cases h0:cd=0
 ·subst h0;rw[if_neg sD];refine t_ func123 ntmps123 ?_;repeat first|refine v_ ?_|intro
  rename_i g5 g6;refine cl sD sK aC (λM hE=>NW (E:=M) m.key) ?_;rintro e H' ⟨rfl,rfl⟩;repeat first|refine v_ ?_|intro
  rename_i g7;refine rB (l_ [0,2,3,4] (g_ 1 (g_ 5 (n_ 6 .nil)))) ([own jE (some ⟨g7,0,none⟩) 1 1 _]) ?_;repeat first|refine v_ ?_|intro
  refine iO st ?_;rintro e H' ⟨gs,rfl,rfl⟩;repeat first|refine v_ ?_|intro
  refine iO (λM=>doo M gs) ?_;rintro e H' ⟨Q,rfl,rfl⟩;repeat first|refine v_ ?_|intro
  refine dX (λM=>tk M Q _ _) ?_;rintro e H' ⟨Q2,rfl,rfl⟩;repeat first|refine v_ ?_|intro
  exact cI (H':=[aJ g 121 (wC x now sn cf nn sub),bZ (P++(Q++Q2)) gr cf n2 k,aZ x.gw ws,aI (P++(Q++Q2))]) rfl aF rfl rfl rfl aS rfl (by rw[←aAb];exact aA) ⟨Q++Q2,rfl,rfl⟩
 ·rw[if_pos h0];refine t_ func123 ntmps123 ?_;repeat first|refine v_ ?_|intro
  rename_i g5 g6;refine cl sD sK aC (λM hE=>NW (E:=M) m.key) ?_;rintro e H' ⟨rfl,rfl⟩;repeat first|refine v_ ?_|intro
  rename_i g7;refine rB (l_ [0,2,3,4] (g_ 1 (g_ 5 (n_ 6 .nil)))) ([own jE (some ⟨g7,0,none⟩) 1 1 _]) ?_;repeat first|refine v_ ?_|intro
  refine iO st ?_;rintro e H' ⟨gs,rfl,rfl⟩;repeat first|refine v_ ?_|intro
  refine iO (λM=>doo M gs) ?_;rintro e H' ⟨Q,rfl,rfl⟩;repeat first|refine v_ ?_|intro
  exact cI (H':=[aJ g 121 (wC x now sn cf nn sub),bZ (P++Q) gr cf n k,aZ x.gw ws,aI (P++Q)]) rfl aF rfl rfl rfl aS rfl (aB.trans (aB.imp (bZ.mono (aCd k)) aC) aA) ⟨Q,rfl,rfl⟩
end
section
variable (E:Env) (P:List Ov) (g gr:Nat) (x:AM) (now:Int) (sn:Nat) (cf:fU) (nn:Nat) (sub:Int) (n:Nd) (k:Int) (ws:List fD)
theorem Rf(m:Mg)(A:Option Addr)(na c:Nat)(B:Option Addr)(nb d:Nat)(hI:Rd E fN A na c m.ids)(hC:Rd E bE B nb d m.iS)(hk:k≤10000000000000)(h1:m.kind=1):G E 123 [pt g,pt gr,.agg (oK m A na c B nb d).toArray] [aJ g 121 (wC x now sn cf nn sub),bZ P gr cf n k,aZ x.gw ws] (cM (.agg (dG ws n m).2.cs.toArray) [aJ g 121 (wC x now sn cf nn sub),bZ P gr cf (dG ws n m).1.2 (k+2048),aZ x.gw (dG ws n m).1.1]):=by
 have sy:=λM=>KU M P gr cf n k hk;have hup:=J3 (n:=n);unfold dG;rw[if_pos h1];generalize n.sync=res at *;obtain⟨n2,code⟩:=res;dsimp only at sy hup⊢;by_cases h0:code=0
 ·subst h0;rw[if_neg sD];have hu:=hup rfl;have st:=λM=>wW M P gr cf n2 (k+2048);simp only[hu,if_true] at st;by_cases hyes:answers n2.s m
  ·rw[show lR n2.s m=uN n2.s m from if_pos hyes];have QV:=λM gs hI hC=>RF M P gs n2.s m A na c B nb d hI hC hyes;have post:=λ(M:Env) X a z Y b y hX hY=>BV M g x now sn cf nn sub ws (uN n2.s m) X a z Y b y hX hY;generalize hp:jW ws (uN n2.s m)=p at *;obtain⟨ws2,v⟩:=p;dsimp only at post⊢;refine t_ func123 ntmps123 ?_;repeat first|refine v_ ?_|refine Dr.two ?_ ?_|intro
   refine bK sy ?_;repeat first|refine v_ ?_|refine Dr.two ?_ ?_|intro
   rename_i g5 g6;refine C.BI (X:=Option Addr×Nat×Nat×Option Addr×Nat×Nat×Nat) (λy=>[(0,pt g),(6,pt g6),(8,pt y.2.2.2.2.2.2)]) (λy=>[aJ y.2.2.2.2.2.2 195 (oK (uN n2.s m) y.1 (min y.2.1 16) (min y.2.1 16) y.2.2.2.1 (min y.2.2.2.2.1 8) (min y.2.2.2.2.1 8)),own fN y.1 y.2.1 y.2.2.1 (oX n2.s m),own bE y.2.2.2.1 y.2.2.2.2.1 y.2.2.2.2.2.1 (E8 n2.s m),aJ g6 36 CQ.cs,aJ g 121 (wC x now sn cf nn sub),bZ P gr cf n2 (k+2048),aZ x.gw ws]) (λ_=>True) ?_ ?_
   ·refine rB (l_ [0,2] (.two 1 (.two 3 (l_ [4,5,6] (g_ 7 (g_ 8 (n_ 9 .nil)))) 7 (g_ 3 (l_ [4,5,6] (g_ 8 (n_ 9 .nil))))) 7 (g_ 1 (g_ 3 (l_ [4,5,6] (g_ 8 (n_ 9 .nil))))))) ([aJ g5 195 _]) ?_;repeat first|refine v_ ?_|intro
    refine Dr.two ?_ ?_
    ·refine yB rfl sD bA sK aC (λM hE=>st M) ?_;rintro e H' ⟨gs,rfl,rfl⟩;repeat first|refine v_ ?_|intro
     refine Dr.two ?_ ?_
     ·refine yB rfl sD bA sK aC (λM hE=>QV M gs (hI.sub hE) (hC.sub hE)) ?_;rintro e H' ⟨X,a,z,K2,b,y,ha,rfl,rfl⟩;repeat first|refine cY ?_|intro
      rename_i g8;exact⟨(X,a,z,K2,b,y,g8),aD,aA,trivial⟩
     ·repeat first|refine cY ?_|intro
      refine OW (λM=>QV M gs) ?_;rintro e H' ⟨X,a,z,K2,b,y,ha,rfl,rfl⟩;repeat first|refine cY ?_|intro
      rename_i g8;exact⟨(X,a,z,K2,b,y,g8),aD,aA,trivial⟩
    ·repeat first|refine cY ?_|intro
     refine iO st ?_;rintro e H' ⟨gs,rfl,rfl⟩;repeat first|refine cY ?_|intro
     refine OW (λM=>QV M gs) ?_;rintro e H' ⟨X,a,z,K2,b,y,ha,rfl,rfl⟩;repeat first|refine cY ?_|intro
     rename_i g8;exact⟨(X,a,z,K2,b,y,g8),aD,aA,trivial⟩
   ·rintro⟨X,a,z,K2,b,y,g8⟩ F -;dsimp only;repeat first|refine v_ ?_|refine Dr.two ?_ ?_|intro
    refine rB (l_ [0,1,2,3] (g_ 4 (n_ 5 (g_ 6 .nil)))) ([aJ g8 195 _]) ?_;repeat first|refine v_ ?_|refine Dr.two ?_ ?_|intro
    refine cg rfl sD bA sK aC (λM hE=>post M X (min a 16) (min a 16) K2 (min b 8) (min b 8) (Rd.front (show Rd M fN X a z (oX n2.s m) from dB) 16) (Rd.front (show Rd M bE K2 b y (E8 n2.s m) from dB) 8)) ?_;rintro e H' ⟨rfl,rfl⟩;repeat first|refine v_ ?_|refine Dr.two ?_ ?_|intro
    exact Kz
  ·rw[show lR n2.s m=mz from if_neg hyes];have QV:=λM gs hI hC=>Hq M P gs n2.s m A na c B nb d hI hC hyes;have post:=λ(M:Env)=>BV M g x now sn cf nn sub ws mz none 0 0 none 0 0 (Rd.nil _ _) (Rd.nil _ _);generalize jW ws mz=p at *;obtain⟨ws2,v⟩:=p;dsimp only at post⊢;refine t_ func123 ntmps123 ?_;repeat first|refine v_ ?_|refine Dr.two ?_ ?_|intro
   refine bK sy ?_;repeat first|refine v_ ?_|refine Dr.two ?_ ?_|intro
   rename_i g5 g6;refine C.BI (X:=Nat) (λy=>[(0,pt g),(6,pt g6),(8,pt y)]) (λy=>[aJ y 195 (oK mz none 0 0 none 0 0),aJ g6 36 CQ.cs,aJ g 121 (wC x now sn cf nn sub),bZ P gr cf n2 (k+2048),aZ x.gw ws]) (λ_=>True) ?_ ?_
   ·refine rB (l_ [0,2] (.two 1 (.two 3 (l_ [4,5,6] (g_ 7 (g_ 8 (n_ 9 .nil)))) 7 (g_ 3 (l_ [4,5,6] (g_ 8 (n_ 9 .nil))))) 7 (g_ 1 (g_ 3 (l_ [4,5,6] (g_ 8 (n_ 9 .nil))))))) ([aJ g5 195 _]) ?_;repeat first|refine v_ ?_|intro
    refine Dr.two ?_ ?_
    ·refine yB rfl sD bA sK aC (λM hE=>st M) ?_;rintro e H' ⟨gs,rfl,rfl⟩;repeat first|refine v_ ?_|intro
     refine Dr.two ?_ ?_
     ·refine yB rfl sD bA sK aC (λM hE=>QV M gs (hI.sub hE) (hC.sub hE)) ?_;rintro e H' ⟨rfl,rfl⟩;repeat first|refine cY ?_|intro
      rename_i g8;exact⟨g8,aD,aA,trivial⟩
     ·repeat first|refine cY ?_|intro
      refine Ju (λM=>QV M gs) ?_;repeat first|refine cY ?_|intro
      rename_i g8;exact⟨g8,aD,aA,trivial⟩
    ·repeat first|refine cY ?_|intro
     refine iO st ?_;rintro e H' ⟨gs,rfl,rfl⟩;repeat first|refine cY ?_|intro
     refine Ju (λM=>QV M gs) ?_;repeat first|refine cY ?_|intro
     rename_i g8;exact⟨g8,aD,aA,trivial⟩
   ·rintro g8 F -;repeat first|refine v_ ?_|refine Dr.two ?_ ?_|intro
    refine rB (l_ [0,1,2,3] (g_ 4 (n_ 5 (g_ 6 .nil)))) ([aJ g8 195 _]) ?_;repeat first|refine v_ ?_|refine Dr.two ?_ ?_|intro
    refine eJ post ?_;repeat first|refine v_ ?_|refine Dr.two ?_ ?_|intro
    exact Kz
 ·rw[if_pos h0];refine t_ func123 ntmps123 ?_;repeat first|refine v_ ?_|refine Dr.two ?_ ?_|intro
  refine bK sy ?_;repeat first|refine v_ ?_|refine Dr.two ?_ ?_|intro
  exact Kz
end
theorem Qi(E:Env):G E 69 [.pointer none] [] (cM (.bool false) []):=by
 refine t_ func69 ntmps69 ?_;repeat first|refine v_ ?_|intro
 exact B7
section
variable (E:Env) (P:List Ov) (g:Nat) (x:AM) (now:Int) (sn:Nat) (cf:fU) (nn:Nat) (sub:Int) (ws:List fD)
theorem CR(i:Int)(h:xB ws i=none):G E 59 [pt g,.int .i64 i] [aJ g 121 (wC x now sn cf nn sub),aZ x.gw ws] (cM (.agg (⟨14,0,0⟩:wM).cs.toArray) [aJ g 121 (wC x now sn cf nn sub),aZ x.gw ws]):=by
 have fl:=λM e=>tD M e;have to:=λM=>JU M x.gw ws i;have tk:=λM=>vV M x.gw ws i;rw[h] at to tk;refine t_ func59 ntmps59 ?_;repeat first|refine v_ ?_|intro
 refine bK to ?_;repeat first|refine v_ ?_|intro
 refine bK tk ?_;repeat first|refine v_ ?_|intro
 refine bK (λM=>fl M 14) ?_;repeat first|refine v_ ?_|intro
 exact Kz
theorem DE(i:Int)(p:fD)(h:xB ws i=some p)(hb:mM p.b=none)(hlen:p.b.length≤1000000):G E 59 [pt g,.int .i64 i] [aJ g 121 (wC x now sn cf nn sub),aZ x.gw ws] (cM (.agg (⟨0,0,0⟩:wM).cs.toArray) [aJ g 121 (wC x now sn cf nn sub),aZ x.gw (cR ws i)]):=by
 have to:=λM=>JU M x.gw ws i;have tk:=λM=>vV M x.gw ws i;rw[h] at to tk;have gt:=λ(M:Env) A n c hr hl=>Gv (E:=M) (A:=A) (n:=n) (c:=c) p.b hr hl;rw[hb] at gt;refine t_ func59 ntmps59 ?_;repeat first|refine v_ ?_|intro
 refine bK to ?_;repeat first|refine v_ ?_|intro
 refine bW tk ?_;rintro e H' ⟨A,n,c,hn,rfl,rfl⟩;repeat first|refine v_ ?_|intro
 refine cl sD sK aC (λM hE=>gt M A n c dB (by have:=(show Rd M aU A n c p.b from dB).len;omega)) ?_;rintro e H' ⟨rfl,rfl⟩;repeat first|refine v_ ?_|intro
 exact Kz
end
section
variable (E:Env) (P:List Ov) (g:Nat) (x:AM) (now:Int) (sn:Nat) (cf:fU) (nn:Nat) (sub:Int) (ws:List fD)
theorem aHa(i:Int)(p:fD)(h:xB ws i=some p)(m:Mg)(hb:mM p.b=some m)(hlen:p.b.length≤1000000)(hto:p.to=9)(r:Int)(l:List dK)(hl:l.length≤1000000):G E 59 [pt g,.int .i64 i] [aJ g 121 (wC x now sn cf nn sub),aZ x.gw ws,cK x.gg r l] (cM (.agg (⟨0,(gG (cR ws i) r l m).2,0⟩:wM).cs.toArray) [aJ g 121 (wC x now sn cf nn sub),aZ x.gw (gG (cR ws i) r l m).1.1,cK x.gg (gG (cR ws i) r l m).1.2.1 (gG (cR ws i) r l m).1.2.2]):=by
 have to:=λM=>JU M x.gw ws i;have tk:=λM=>vV M x.gw ws i;rw[h] at to tk;simp only[aDi,aBe,hto] at to;have gt:=λ(M:Env) A n c hr hl=>Gv (E:=M) (A:=A) (n:=n) (c:=c) p.b hr hl;rw[hb] at gt;have rq:=λM O a c B b d=>LJ M g x now sn cf nn sub (cR ws i) r l hl m O a c B b d;generalize gG (cR ws i) r l m=q at *;obtain⟨⟨ws2,r2,l2⟩,v⟩:=q;dsimp only at rq⊢;refine t_ func59 ntmps59 ?_;repeat first|refine v_ ?_|intro
 refine bK to ?_;repeat first|refine v_ ?_|intro
 refine bW tk ?_;rintro e H' ⟨A,n,c,hn,rfl,rfl⟩;repeat first|refine v_ ?_|intro
 refine cl sD sK aC (λM hE=>gt M A n c dB (by have:=(show Rd M aU A n c p.b from dB).len;omega)) ?_;rintro e H' ⟨O,a,oc,B,b,d,rfl,rfl⟩;repeat first|refine v_ ?_|intro
 rename_i g8;refine rB (l_ [0,1,2,3] (g_ 4 (n_ 5 (g_ 6 .nil)))) ([aJ g8 195 _]) ?_;repeat first|refine v_ ?_|intro
 refine eJ (λM=>rq M O a oc B b d) ?_;repeat first|refine v_ ?_|intro
 exact Kz
end
section
variable (E:Env) (P:List Ov) (g gr:Nat) (x:AM) (now:Int) (sn:Nat) (cf:fU) (nn:Nat) (sub:Int) (n:Nd) (k:Int) (ws:List fD)
theorem yV(i:Int)(p:fD)(h:xB ws i=some p)(m:Mg)(hb:mM p.b=some m)(hlen:p.b.length≤1000000)(h9:p.to≠9)(hn:nn≤4)(h1:1≤nn)(hto:p.to<0∨(nn:Int)≤p.to):G E 59 [pt g,.int .i64 i] [aJ g 121 (wC x now sn cf nn sub),aZ x.gw ws] (cM (.agg (⟨0,0,0⟩:wM).cs.toArray) [aJ g 121 (wC x now sn cf nn sub),aZ x.gw (cR ws i)]):=by
 have to:=λM=>JU M x.gw ws i;have tk:=λM=>vV M x.gw ws i;rw[h] at to tk;simp only[aDi,aBe] at to;have gt:=λ(M:Env) A n c hr hl=>Gv (E:=M) (A:=A) (n:=n) (c:=c) p.b hr hl;rw[hb] at gt;have atn:=λM hb=>EN M g x now sn cf nn sub p.to hb hn h1 hto;refine t_ func59 ntmps59 ?_;repeat first|refine v_ ?_|intro
 refine bK to ?_;repeat first|refine v_ ?_|intro
 refine bW tk ?_;rintro e H' ⟨A,na,c,hn,rfl,rfl⟩;repeat first|refine v_ ?_|intro
 refine cl sD sK aC (λM hE=>gt M A na c dB (by have:=(show Rd M aU A na c p.b from dB).len;omega)) ?_;rintro e H' ⟨O,a,oc,B,b,d,rfl,rfl⟩;repeat first|refine v_ ?_|intro
 refine eV atn ?_;repeat first|refine v_ ?_|intro
 refine bK Qi ?_;repeat first|refine v_ ?_|intro
 exact Kz
theorem Ew(i:Int)(p:fD)(h:xB ws i=some p)(m:Mg)(hb:mM p.b=some m)(hlen:p.b.length≤1000000)(j:Nat)(hj:p.to=j)(hn:nn≤4)(hgs:x.gs[j]?=some gr)(hu:n.up=false):G E 59 [pt g,.int .i64 i] [aJ g 121 (wC x now sn cf nn sub),bZ P gr cf n k,aZ x.gw ws,own vE x.nA nn x.nc x.gs] (cM (.agg (⟨0,0,0⟩:wM).cs.toArray) [aJ g 121 (wC x now sn cf nn sub),bZ P gr cf n k,aZ x.gw (cR ws i),own vE x.nA nn x.nc x.gs]):=by
 refine aK.fact (p:=nn=x.gs.length) (λw hw=>by obtain⟨F,h1,_⟩:=hw.has (a:=own vE x.nA nn x.nc x.gs) aS;exact(qE h1).1) λhnl=>?_;have hjl:=(aAd.1 hgs).1;have to:=λM=>JU M x.gw ws i;have tk:=λM=>vV M x.gw ws i;rw[h] at to tk;simp only[aDi,aBe] at to;have gt:=λ(M:Env) A n c hr hl=>Gv (E:=M) (A:=A) (n:=n) (c:=c) p.b hr hl;rw[hb] at gt;rw[hj] at to;have h9:(j:Int)≠9:=o_;have aty:=λM hb hG=>qW M g x now sn cf nn sub j gr hb hn hG hgs;have up:=λM=>TI M P gr cf n k;rw[hu] at up;refine t_ func59 ntmps59 ?_;repeat first|refine v_ ?_|intro
 refine bK to ?_;repeat first|refine v_ ?_|intro
 refine bW tk ?_;rintro e H' ⟨A,na,c,hn,rfl,rfl⟩;repeat first|refine v_ ?_|intro
 refine cl sD sK aC (λM hE=>gt M A na c dB (by have:=(show Rd M aU A na c p.b from dB).len;omega)) ?_;rintro e H' ⟨O,a,oc,B,b,d,rfl,rfl⟩;repeat first|refine v_ ?_|intro
 refine DY aty ?_;repeat first|refine v_ ?_|intro
 refine bK up ?_;repeat first|refine v_ ?_|intro
 exact Kz
end
section
variable (E:Env) (P:List Ov) (g gr:Nat) (x:AM) (now:Int) (sn:Nat) (cf:fU) (nn:Nat) (sub:Int) (n:Nd) (k:Int) (ws:List fD)
theorem UK(m:Mg)(A:Option Addr)(na c:Nat)(B:Option Addr)(nb d:Nat)(hI:Rd E fN A na c m.ids)(hC:Rd E bE B nb d m.iS)(hok:m.ok)(hu:n.up=true)(hk:k≤10000000000000):G E 123 [pt g,pt gr,.agg (oK m A na c B nb d).toArray] [aJ g 121 (wC x now sn cf nn sub),bZ P gr cf n k,aZ x.gw ws,aI P] λe H'=>∃Q,e=.returned (.agg (dG ws n m).2.cs.toArray)∧H'=[aJ g 121 (wC x now sn cf nn sub),bZ (P++Q) gr cf (dG ws n m).1.2 (k+2048),aZ x.gw (dG ws n m).1.1,aI (P++Q)]:=by
 by_cases h1:m.kind=1
 ·refine aK.mono (aK.beside (Hp:=[aJ g 121 (wC x now sn cf nn sub),bZ P gr cf n k,aZ x.gw ws]) (R:=[aI P]) λM hE=>Rf M P g gr x now sn cf nn sub n k ws m A na c B nb d (hI.sub hE) (hC.sub hE) hk h1) ?_;rintro e H' ⟨H1,⟨rfl,rfl⟩,rfl⟩;exact⟨[],rfl,by rw[aAc];rfl⟩
 ·have fin:∀Q,aB E [aJ g 121 (wC x now sn cf nn sub),bZ (P++Q) gr cf (dG ws n m).1.2 k,aZ x.gw (dG ws n m).1.1,aI (P++Q)] [aJ g 121 (wC x now sn cf nn sub),bZ (P++Q) gr cf (dG ws n m).1.2 (k+2048),aZ x.gw (dG ws n m).1.1,aI (P++Q)]:=λQ=>aB.cF (cA.cons cA.refl (cA.cons (bZ.qK o_) cA.refl));by_cases h2:m.kind=2
  ·refine aK.post (Ss E P g gr x now sn cf nn sub n k ws m A na c B nb d hI hC hok hu h2) ?_;rintro e H' ⟨Q,rfl,rfl⟩;exact⟨_,fin Q,Q,rfl,rfl⟩
  ·refine aK.post (Sq E P g gr x now sn cf nn sub n k ws m A na c B nb d hu h1 h2) ?_;rintro e H' ⟨Q,rfl,rfl⟩;exact⟨_,fin Q,Q,rfl,rfl⟩
end
section
variable (E:Env) (P:List Ov) (g gr:Nat) (x:AM) (now:Int) (sn:Nat) (cf:fU) (nn:Nat) (sub:Int) (n:Nd) (k:Int) (ws:List fD)
theorem E9(i:Int)(p:fD)(h:xB ws i=some p)(m:Mg)(hb:mM p.b=some m)(hlen:p.b.length≤1000000)(j:Nat)(hj:p.to=j)(hn:nn≤4)(hgs:x.gs[j]?=some gr)(hu:n.up=true)(hk:k≤10000000000000):G E 59 [pt g,.int .i64 i] [aJ g 121 (wC x now sn cf nn sub),bZ P gr cf n k,aZ x.gw ws,aI P,own vE x.nA nn x.nc x.gs] λe H'=>∃Q,e=.returned (.agg (dG (cR ws i) n m).2.cs.toArray)∧H'=[aJ g 121 (wC x now sn cf nn sub),bZ (P++Q) gr cf (dG (cR ws i) n m).1.2 (k+2048),aZ x.gw (dG (cR ws i) n m).1.1,aI (P++Q),own vE x.nA nn x.nc x.gs]:=by
 refine aK.fact (p:=nn=x.gs.length) (λw hw=>by obtain⟨F,h1,_⟩:=hw.has (a:=own vE x.nA nn x.nc x.gs) aS;exact(qE h1).1) λhnl=>?_;have hjl:=(aAd.1 hgs).1;have hok:=(tU hb).2.2;have to:=λM=>JU M x.gw ws i;have tk:=λM=>vV M x.gw ws i;rw[h] at to tk;simp only[aDi,aBe] at to;have gt:=λ(M:Env) A n c hr hl=>Gv (E:=M) (A:=A) (n:=n) (c:=c) p.b hr hl;rw[hb] at gt;rw[hj] at to;have h9:(j:Int)≠9:=o_;have aty:=λM hb hG=>qW M g x now sn cf nn sub j gr hb hn hG hgs;have up:=λM=>TI M P gr cf n k;rw[hu] at up;have hear:=λM O a oc B b d hI hC=>UK M P g gr x now sn cf nn sub n k (cR ws i) m O a oc B b d hI hC hok hu hk;generalize dG (cR ws i) n m=res at *;obtain⟨⟨ws2,n2⟩,QV⟩:=res;dsimp only at hear⊢;refine t_ func59 ntmps59 ?_;repeat first|refine v_ ?_|intro
 refine bK to ?_;repeat first|refine v_ ?_|intro
 refine bW tk ?_;rintro e H' ⟨A,na,c,hnn,rfl,rfl⟩;repeat first|refine v_ ?_|intro
 refine cl sD sK aC (λM hE=>gt M A na c dB (by have:=(show Rd M aU A na c p.b from dB).len;omega)) ?_;rintro e H' ⟨O,a,oc,B,b,d,rfl,rfl⟩;repeat first|refine v_ ?_|intro
 refine DY aty ?_;repeat first|refine v_ ?_|intro
 refine bK up ?_;repeat first|refine v_ ?_|intro
 refine C1 (λM=>hear M O a oc B b d) ?_;rintro e H' ⟨Q,rfl,rfl⟩;repeat first|refine v_ ?_|intro
 exact cI rfl aF rfl rfl rfl aS rfl aA (⟨Q,rfl,rfl⟩)
end
instance:Bj 176 [.int .i64 0,.int .i64 0,.int .i64 0,.int .i64 0,.int .i64 0] [(0,1),(1,1),(2,1),(3,1),(4,1)] 1:=⟨⟨q_,q_,rfl⟩⟩
instance:Bg 176 [.int .i64 0,.int .i64 0,.int .i64 0,.int .i64 0,.int .i64 0]:=⟨q_⟩
def fU.cV(c:fU):Prop:=(1≤c.bN∧c.bN≤4)∧(1≤c.eF∧c.eF≤64)∧(1≤c.dC∧c.dC≤8)∧(1≤c.base∧c.base≤64)∧1≤c.cap∧c.cap≤64
instance (c:fU):Decidable c.cV:=by unfold fU.cV;infer_instance
theorem KC(E:Env)(c:fU):G E 47 [.agg c.cs.toArray] [] (cM (.int .i64 (if c.cV then 0 else 6)) []):=by
 refine t_ func47 ntmps47 ?_;repeat first|refine v_ ?_|intro
 rename_i g1 g3;obtain⟨qs,hqs⟩:∃qs:List Int,qs=[c.bN,c.eF,c.dC,c.base,c.cap]:=⟨_,rfl⟩
 obtain⟨ts,hts⟩:∃ts:List Int,ts=[4,64,8,64,64]:=⟨_,rfl⟩
 refine C.scan (Y:=Unit) (l:=qs.zip ts) (n:=5) (by subst hqs hts;rfl) (λi _=>[(3,pt g3),(17,.agg (cells qs).toArray),(18,.int .i64 i)])
  (λ_ _=>[aJ g3 176 (cells ts)]) (λi _=>∀j z,j<i→(qs.zip ts)[j]?=some z→1≤z.1∧z.1≤z.2) () (by subst hqs hts;exact⟨rfl,rfl,rfl,trivial⟩) (by subst hqs hts;show aB E _ [aJ g3 176 [.int .i64 4,.int .i64 64,.int .i64 8,.int .i64 64,.int .i64 64]];exact aA) (λj z hj=>by omega) ?_ ?_
 ·rintro i ⟨⟩ ⟨a,b⟩ F hi hz hinv;have hz1:qs[i]?=some a:=(aDf.1 hz).1;have hz2:ts[i]?=some b:=(aDf.1 hz).2;have hA:(cells qs)[i]?=some (Value.int .i64 a):=by simp[cells,hz1]
  have hB:(cells ts)[i]?=some (Value.int .i64 b):=by simp[cells,hz2]
  by_cases hr:1≤a∧a≤b
  ·have hd:decide (1≤a∧a≤b)=true:=decide_eq_true hr;repeat first|refine v_ ?_|intro
   refine⟨(),aD,aA,λj z hj hz'=>?_⟩;by_cases hji:j<i
   ·exact hinv j z hji hz'
   ·obtain rfl:j=i:=o_;rw[hz] at hz';injection hz' with hz'
    subst hz';exact hr
  ·have hd:decide (1≤a∧a≤b)=false:=decide_eq_false hr;have hf:¬c.cV:=λhf=>by
    subst hqs hts;unfold fU.cV at hf;rcases(show i=0∨i=1∨i=2∨i=3∨i=4 by omega) with rfl|rfl|rfl|rfl|rfl<;>(injection hz1 with hz1;injection hz2 with hz2;subst hz1 hz2;omega)
   rw[if_neg hf];repeat first|refine v_ ?_|intro
   exact B7
 ·rintro⟨⟩ F hinv;subst hqs hts;have h0:=hinv 0 _ o_ rfl;have h1:=hinv 1 _ o_ rfl;have h2:=hinv 2 _ o_ rfl;have h3:=hinv 3 _ o_ rfl;have h4:=hinv 4 _ o_ rfl;rw[if_pos (show c.cV from⟨h0,h1,h2,h3,h4⟩)];repeat first|refine v_ ?_|intro
  exact B7
structure Wv where
 cf:fU
 now:Int
 sub:Int
 aW:List fM
 ws:List fD
 ref:Int
 app:List dK
 bU:List Nd
def sU(ws:List fD):Prop:=(∀p∈ws,p.b.length≤1000000)∧ws.length≤128
structure Wv.ok(t:Nat)(v:Wv):Prop where
 cV:v.cf.cV
 len:(v.bU.length:Int)=v.cf.bN
 now:0≤v.now∧v.now≤1073741824
 sub:0≤v.sub∧v.sub≤48
 aW:v.aW.length≤48*t
 app:v.app.length≤t
 pk:sU v.ws
theorem Wv.ok.rK{t:Nat}{v:Wv}(h:v.ok t):1≤v.bU.length∧v.bU.length≤4:=by
 have h1:=h.cV.1;have h2:=h.len;omega
theorem Wv.ok.node{t:Nat}{v:Wv}(_h:v.ok t){i:Nat}(hi:i<v.bU.length):∃n,v.bU[i]?=some n:=⟨_,aAa hi⟩
abbrev nP(P:List Ov)(cf:fU)(k:Int)(z:Nat×Nd):aL:=bZ P z.1 cf z.2 k
abbrev wL(P:List Ov)(g:Nat)(k:Int)(v:Wv)(x:AM):List aL:=[aJ g 121 (wC x v.now v.aW.length v.cf v.bU.length v.sub),aZ x.gw v.ws,cK x.gg v.ref v.app,own mK x.sA v.aW.length x.sc v.aW,own vE x.nA v.bU.length x.nc x.gs,aO (nP P v.cf k) (x.gs.zip v.bU)]
abbrev kt(t:Nat):Int:=((10000*t:Nat):Int)
theorem uX{t t':Nat}(h:t≤t'):kt t≤kt t':=by simp only[kt];omega
def aQ(P:List Ov)(g:Nat)(t:Nat)(v:Wv):aL:=nI (λx:AM=>v.ok t∧x.gs.length=v.bU.length) (wL P g (kt t) v)
theorem cA.X7{X:Type}{f f':X→aL}(h:∀z,cA [f z] [f' z]):∀l:List X,cA (l.map f) (l.map f')
 | []=>cA.refl
 |x::l=>cA.cons (h x) (cA.X7 h l)
theorem cA.Ge{X:Type}{f f':X→aL}{l:List X}(h:∀z,cA [f z] [f' z]):cA [aO f l] [aO f' l]:=λF w hs=>by
 obtain⟨F1,F2,h1,h2,h3,h4⟩:=hs;obtain⟨G,g1,g2⟩:=cA.X7 h l F1 w h3;exact⟨G,⟨G,λ_=>False,λb=>by simp,λ_ _ h=>h,g1,λ_ h=>h⟩,λb hb=>(h1 b).2 (.inl (g2 b hb))⟩
theorem SO{α β:Type}{l:List α}{m:List β}{i:Nat}{a:α}{b:β}(h:l[i]?=some a):(l.zip m).set i (a,b)=l.zip (m.set i b):=by
 refine aCk λj=>?_;by_cases hj:i=j
 ·subst hj;rw[aDr];by_cases hm:i<m.length
  ·have hl:=(aAd.1 h).1;rw[if_pos rfl,if_pos (by rw[aFl];omega)];exact(aDf.2 ⟨h,by rw[aDr,if_pos rfl,if_pos hm]⟩).symm
  ·rw[if_pos rfl,if_neg (by rw[aFl];omega)];exact(aBx.2 (by rw[aFl,aAt];omega)).symm
 ·rw[aEq hj];cases hz:(l.zip m)[j]? with
  |none =>
   have:=aBx.1 hz;exact(aBx.2 (by rw[aFl,aAt];rw[aFl] at this;exact this)).symm
  |some z =>
   obtain⟨h1,h2⟩:=aDf.1 hz;exact(aDf.2 ⟨h1,by rw[aEq hj];exact h2⟩).symm
theorem aB.lB{E:Env}{H R l:List aL}(h:cS l H R):aB E H (l++R):=aB.imp cA.refl h
section
variable {E:Env} {H R:List aL} {P Q PQ:List Ov} {g gr:Nat} {t t':Nat} {v v':Wv} {x x':AM} {n n':Nd} {i:Nat} {k k' k2:Int} {cf:fU}
theorem vR(hg:x.gs[i]?=some gr)(hn:v.bU[i]?=some n)(hh:Has (aO (nP P cf k) (x.gs.zip v.bU)) H R):aB E H (bZ P gr cf n k::aO (nP P cf k) ((x.gs.zip v.bU).eraseIdx i)::R) :=
 aB.out (f:=nP P cf k) (x:=(gr,n)) hh (aDf.2 ⟨hg,hn⟩)
theorem Va(hg:x.gs[i]?=some gr)(hn:v.bU[i]?=some n)(h1:k≤k2)(h2:k'≤k2)(hp:cS [bZ (P++Q) gr cf n' k',aO (nP P cf k) ((x.gs.zip v.bU).eraseIdx i)] H R):aB E H (aO (nP (P++Q) cf k2) (x.gs.zip (v.bU.set i n'))::R):=by
 have hi:i<(x.gs.zip v.bU).length:=(aAd.1 (aDf.2 ⟨hg,hn⟩:(x.gs.zip v.bU)[i]?=some (gr,n))).1;have c1:aB E H (bZ (P++Q) gr cf n' k2::aO (nP (P++Q) cf k2) ((x.gs.zip v.bU).eraseIdx i)::R):=aB.imp (cA.cons (bZ.qK h2) (cA.Ge (λz=>bZ.mono (P:=P) (Q:=Q) h1))) hp;rw[←SO hg];exact c1.trans (aB.BH (f:=nP (P++Q) cf k2) (x:=(gr,n')) (.cons .aN (.cons .aN .nil)) (uO hi))
theorem BZ(ht:t≤t')(hPQ:PQ=P++Q)(hg:x'.gs[i]?=some gr)(hn:v.bU[i]?=some n)(h2:k'≤kt t')(hv:v'.ok t')(hgs:x'.gs.length=v.bU.length)(hnd:v'.bU=v.bU.set i n'){nn sn:Nat}(hnn:nn=v.bU.length)(hsn:sn=v'.aW.length)
  (hp:cS [aJ g 121 (wC x' v'.now sn v'.cf nn v'.sub),aZ x'.gw v'.ws,cK x'.gg v'.ref v'.app,own mK x'.sA sn x'.sc v'.aW,own vE x'.nA nn x'.nc x'.gs,bZ PQ gr v'.cf n' k',aO (nP P v'.cf (kt t)) ((x'.gs.zip v.bU).eraseIdx i)] H R):aB E H (aQ PQ g t' v'::R):=by
 subst hPQ;have hl:v'.bU.length=v.bU.length:=by rw[hnd,aAt]
 subst hsn;rw[hnn,←hl] at hp;have c1:=aB.imp (E:=E) cA.refl hp;dsimp only[List.cons_append,List.nil_append] at c1;refine c1.trans (aB.trans (Va (x:=x') (v:=v) (cf:=v'.cf) (k2:=kt t') (Q:=Q) hg hn (uX ht) h2 aC) ?_);rw[←hnd];exact aB.fp (l:=wL (P++Q) g (kt t') v') (x:=x') ⟨hv,by rw[hl];exact hgs⟩ aC
theorem Di(ht:t≤t')(hPQ:PQ=P++Q)(hv:v'.ok t')(hgs:x'.gs.length=v.bU.length)(hnd:v'.bU=v.bU){nn sn:Nat}(hnn:nn=v.bU.length)(hsn:sn=v'.aW.length)
  (hp:cS [aJ g 121 (wC x' v'.now sn v'.cf nn v'.sub),aZ x'.gw v'.ws,cK x'.gg v'.ref v'.app,own mK x'.sA sn x'.sc v'.aW,own vE x'.nA nn x'.nc x'.gs,aO (nP P v'.cf (kt t)) (x'.gs.zip v.bU)] H R):aB E H (aQ PQ g t' v'::R):=by
 subst hPQ hsn;rw[hnn,←hnd] at hp;have c1:=aB.imp (E:=E) cA.refl hp;dsimp only[List.cons_append,List.nil_append] at c1;refine c1.trans (aB.trans (aB.imp (A:=[aO (nP P v'.cf (kt t)) (x'.gs.zip v'.bU)]) (B:=[aO (nP (P++Q) v'.cf (kt t')) (x'.gs.zip v'.bU)]) (cA.Ge (λz=>bZ.mono (P:=P) (Q:=Q) (uX ht))) aC) ?_);dsimp only[List.cons_append,List.nil_append];exact aB.fp (l:=wL (P++Q) g (kt t') v') (x:=x') ⟨hv,by rw[hnd];exact hgs⟩ aC
end
theorem Oo{ws:List fD}{p:fD}(h:sU ws)(hp:p.b.length≤1000000):sU (zX ws p).1:=by
 unfold zX;split
 ·exact h
 ·refine⟨λq hq=>?_,by show(ws++[p]).length≤128;rw[aAe,aDa];omega⟩;rcases aBg.1 hq with hq|hq
  ·exact h.1 q hq
  ·rw[aAp.1 hq];exact hp
theorem BG{ws:List fD}(h:sU ws)(m:Mg):sU (jW ws m).1:=by
 unfold jW;split
 ·exact h
 ·rename_i hc;have hc:m.check=0:=Classical.not_not.1 hc;refine Oo h ?_;have:=Mg.size hc;have:m.enc.length=m.body.length+7:=Frm.bO _;show m.enc.length≤_;omega
theorem BS{ws:List fD}(h:sU ws)(i:Int):sU (cR ws i):=by
 unfold cR;split
 ·exact h
 ·exact⟨λp hp=>h.1 p (aGe hp),aBw (List.eraseIdx_sublist ..).length_le h.2⟩
theorem PE{ws:List fD}(h:sU ws){i:Int}{p:fD}(hp:xB ws i=some p):p.b.length≤1000000:=by
 obtain⟨k,_,hk⟩:=uP hp;exact h.1 p (aAi hk)
theorem VI{ws:List fD}(h:sU ws)(r:Int)(l:List dK)(m:Mg):sU (gG ws r l m).1.1:=by
 unfold gG;split
 ·exact BG h _
 ·exact h
theorem F5{r now:Int}:∀(l:List dK) (ws:List fD) (aW:List fM),sU ws→sU (jN r now ws aW l).1
 | [],_,_,h=>h
 |_q::l,_ws,_sent,h=>F5 l _ _ (BG h _)
theorem Qj{ws:List fD}(h:sU ws)(n:Nd)(m:Mg):sU (dG ws n m).1.1:=by
 unfold dG;split
 ·split
  ·exact h
  ·exact BG h _
 split
 ·exact h
 split
 ·exact h
 ·exact h
theorem SQ(ws:List fD)(r:Int)(l:List dK)(m:Mg):(gG ws r l m).1.2.2.length≤l.length+1:=by
 have h:(L8 r l ⟨m.key,m.bC⟩).1.2.length≤l.length+1:=by
  unfold L8;split
  ·simp
  ·split<;>simp
 unfold gG;split<;>exact h
theorem IC{sub:Int}(h:0≤sub∧sub≤48)(n:Nd)(c:aX):0≤(kA sub n c).1∧(kA sub n c).1≤48:=by
 unfold kA;split
 ·exact h
 split
 ·exact h
 ·exact⟨by show 0≤sub+1;omega,by show sub+1≤48;omega⟩
theorem Nx{now:Int}(h:0≤now∧now≤1073741824)(n:Int):0≤(uD now n).1∧(uD now n).1≤1073741824:=by
 unfold uD;split
 ·rename_i hn;exact⟨by show 0≤now+n;omega,by show now+n≤_;omega⟩
 ·exact h
def Wv.bV(v:Wv)(i:Int):Wv×wM:=match xB v.ws i with
 |none=>(v,⟨14,0,0⟩)
 |some p=>match mM p.b with
  |none=>(⟨v.cf,v.now,v.sub,v.aW,cR v.ws i,v.ref,v.app,v.bU⟩,⟨0,0,0⟩)
  |some m=>if p.to=9 then(⟨v.cf,v.now,v.sub,v.aW,(gG (cR v.ws i) v.ref v.app m).1.1,(gG (cR v.ws i) v.ref v.app m).1.2.1,(gG (cR v.ws i) v.ref v.app m).1.2.2,v.bU⟩,⟨0,(gG (cR v.ws i) v.ref v.app m).2,0⟩)
   else if p.to<0 then(⟨v.cf,v.now,v.sub,v.aW,cR v.ws i,v.ref,v.app,v.bU⟩,⟨0,0,0⟩)
   else match v.bU[p.to.toNat]? with
    |none=>(⟨v.cf,v.now,v.sub,v.aW,cR v.ws i,v.ref,v.app,v.bU⟩,⟨0,0,0⟩)
    |some n=>if n.up then(⟨v.cf,v.now,v.sub,v.aW,(dG (cR v.ws i) n m).1.1,v.ref,v.app,v.bU.set p.to.toNat (dG (cR v.ws i) n m).1.2⟩,(dG (cR v.ws i) n m).2)
     else(⟨v.cf,v.now,v.sub,v.aW,cR v.ws i,v.ref,v.app,v.bU⟩,⟨0,0,0⟩)
abbrev Wv.fC(v:Wv)(i:Nat)(n:Nd)(c:aX):Wv×wM:=(⟨v.cf,v.now,(kA v.sub n c).1,v.aW,v.ws,v.ref,v.app,v.bU.set i (kA v.sub n c).2.1⟩,(kA v.sub n c).2.2)
abbrev Wv.Cj(v:Wv)(i:Nat)(n:Nd):Wv:=⟨v.cf,v.now,v.sub,v.aW,v.ws,v.ref,v.app,v.bU.set i n⟩
abbrev Wv.ask(v:Wv)(i:Nat)(n:Nd)(st:cH):Wv×wM:=(⟨v.cf,v.now,v.sub,v.aW,(yI v.bU.length v.ws n st).1.1,v.ref,v.app,v.bU.set i (yI v.bU.length v.ws n st).1.2⟩,(yI v.bU.length v.ws n st).2)
abbrev Wv.qD(v:Wv)(i:Nat)(n:Nd)(r:Int):Wv×wM:=(⟨v.cf,v.now,v.sub,(oO v.cf v.now v.ws v.aW n r).1.2.1,(oO v.cf v.now v.ws v.aW n r).1.1,v.ref,v.app,v.bU.set i (oO v.cf v.now v.ws v.aW n r).1.2.2⟩,(oO v.cf v.now v.ws v.aW n r).2)
abbrev Wv.tick(v:Wv)(n:Int):Wv×wM:=(⟨v.cf,(uD v.now n).1,v.sub,v.aW,v.ws,v.ref,v.app,v.bU⟩,(uD v.now n).2)
abbrev Wv.rY(v:Wv)(st:cH):Wv×wM:=(⟨v.cf,v.now,v.sub,v.aW,(lP v.ws st).1,v.ref,v.app,v.bU⟩,(lP v.ws st).2)
noncomputable abbrev Wv.Mf(v:Wv)(i:Nat)(n:Nd)(st:cH):Wv×wM:=(⟨v.cf,v.now,v.sub,v.aW,v.ws,(wF v.ref n st).1.1,v.app,v.bU.set i (wF v.ref n st).1.2⟩,(wF v.ref n st).2)
def Wv.qA(v:Wv)(dC:Int):Wv×wM:=match v.bU[0]? with
 |none=>(v,⟨0,0,0⟩)
 |some p=>(v.Cj 0 (mT p dC).1,(mT p dC).2)
noncomputable def Wv.SB(v:Wv)(i:Nat)(n:Nd)(st:cH):Wv×wM :=
 if st.kind=1 then v.fC i n st.c
 else if st.kind=2 then(v.Cj i n.sync.1,⟨n.sync.2,0,0⟩)
 else if st.kind=3 then v.ask i n st
 else if st.kind=4 then v.qA st.n
 else if st.kind=5 then v.qD i n st.r
 else if st.kind=6 then v.tick st.n
 else if st.kind=7 then v.bV st.i
 else if 8≤st.kind∧st.kind≤10 then v.rY st
 else v.Mf i n st
noncomputable def Wv.step(v:Wv)(st:cH):Wv×wM :=
 if st.check≠0 then(v,⟨st.check,0,0⟩)
 else match v.bU[st.r.toNat]? with
  |none=>(v,⟨4,0,0⟩)
  |some n=>v.SB st.r.toNat n st
section
variable {t:Nat} {v v':Wv} {i:Nat} {n:Nd}
theorem Wv.ok.to(h:v.ok t)(hcf:v'.cf=v.cf)(hl:v'.bU.length=v.bU.length)(hn:0≤v'.now∧v'.now≤1073741824)(hs:0≤v'.sub∧v'.sub≤48)(hx:v'.aW.length≤v.aW.length+48)(ha:v'.app.length≤v.app.length+1)(hp:sU v'.ws):v'.ok (t+1) :=
 ⟨by rw[hcf];exact h.cV,by rw[hl,hcf];exact h.len,hn,hs,by have:=h.aW;omega,by have:=h.app;omega,hp⟩
theorem Wv.ok.same(h:v.ok t):v.ok (t+1):=h.to rfl rfl h.now h.sub o_ o_ h.pk
theorem Wv.ok.Cj(h:v.ok t)(i:Nat)(n:Nd):(v.Cj i n).ok (t+1):=h.to rfl (aAt ..) h.now h.sub (aCe ..) (aCe ..) h.pk
theorem Wv.ok.fC(h:v.ok t)(i:Nat)(n:Nd)(c:aX):(v.fC i n c).1.ok (t+1):=h.to rfl (aAt ..) h.now (IC h.sub n c) (aCe ..) (aCe ..) h.pk
theorem Wv.ok.ask(h:v.ok t)(i:Nat)(n:Nd)(st:cH):(v.ask i n st).1.ok (t+1):=h.to rfl (aAt ..) h.now h.sub (aCe ..) (aCe ..) (by
 show sU (yI v.bU.length v.ws n st).1.1;unfold yI;split
 ·exact h.pk
 split
 ·exact h.pk
 ·exact BG h.pk _)
theorem Wv.ok.qD(h:v.ok t)(i:Nat)(hn:n.ok)(r:Int):(v.qD i n r).1.ok (t+1):=h.to rfl (aAt ..) h.now h.sub (by
 show(jN r v.now v.ws v.aW (n.qD v.cf v.now).2.1).2.length≤_;rw[AV];have:=HY hn v.cf v.now;omega) (aCe ..) (F5 _ _ _ h.pk)
theorem Wv.ok.tick(h:v.ok t)(n:Int):(v.tick n).1.ok (t+1):=h.to rfl rfl (Nx h.now n) h.sub (aCe ..) (aCe ..) h.pk
theorem Wv.ok.Mf(h:v.ok t)(i:Nat)(n:Nd)(st:cH):(v.Mf i n st).1.ok (t+1):=h.to rfl (aAt ..) h.now h.sub (aCe ..) (aCe ..) h.pk
theorem Wv.ok.bV(h:v.ok t)(i:Int):(v.bV i).1.ok (t+1):=by
 unfold Wv.bV;have same:Wv.ok (t+1) ⟨v.cf,v.now,v.sub,v.aW,cR v.ws i,v.ref,v.app,v.bU⟩:=h.to rfl rfl h.now h.sub (aCe ..) (aCe ..) (BS h.pk i);split
 ·exact h.same
 split
 ·exact same
 split
 ·exact h.to rfl rfl h.now h.sub (aCe ..) (SQ _ _ _ _) (VI (BS h.pk i) _ _ _)
 split
 ·exact same
 split
 ·exact same
 split
 ·exact h.to rfl (aAt ..) h.now h.sub (aCe ..) (aCe ..) (Qj (BS h.pk i) _ _)
 ·exact same
end
def oL(P:List Ov)(g t:Nat)(z:Wv×wM):Ending→List aL→Prop:=λe H'=>∃Q,e=.returned (.agg z.2.cs.toArray)∧H'=[aQ (P++Q) g (t+1) z.1,aI (P++Q)]
theorem EA{t:Nat}(h:t≤1000000):kt t≤10000000000000:=by simp only[kt];omega
theorem Bf{t:Nat}{d:Int}(h:d≤10000):kt t+d≤kt (t+1):=by simp only[kt];omega
section
variable (E:Env) {P:List Ov} {g gr:Nat} {t:Nat} {v:Wv} {x:AM} {n:Nd} {i:Nat} (ho:v.ok t) (hx:x.gs.length=v.bU.length) (ht:t≤1000000)
include ho hx ht
theorem K0(hg:x.gs[i]?=some gr)(hn:v.bU[i]?=some n)(c:aX)(hc:dQ c.n):G E 53 [pt g,pt gr,.agg c.cs.toArray] (wL P g (kt t) v x++[aI P]) (oL P g t (v.fC i n c)):=by
 have _:=ht;dsimp only[wL,List.cons_append,List.nil_append];refine aK.pre (vR (k:=kt t) hg hn (.aM (.aM (.aM (.aM (.aM .aN)))))) ?_;refine aK.pre (aB.lB (l:=[aJ g 121 (wC x v.now v.aW.length v.cf v.bU.length v.sub),bZ P gr v.cf n (kt t),aI P]) aC) (aK.post (aK.beside λM hE=>Pf M P g gr x v.now v.aW.length v.cf v.bU.length v.sub n (kt t) c hc ho.sub) ?_);rintro e H' ⟨H1,⟨Q,rfl,rfl⟩,rfl⟩;dsimp only[List.cons_append,List.nil_append];exact⟨_,BZ (t:=t) (v:=v) (v':=(v.fC i n c).1) (aCq t) rfl hg hn (show kt t≤kt (t+1) from uX (aCq t)) (ho.fC i n c) hx rfl rfl rfl aC,Q,rfl,rfl⟩
theorem WR(hg:x.gs[i]?=some gr)(hn:v.bU[i]?=some n)(st:cH):G E 55 [pt g,pt gr,.agg st.cs.toArray] (wL P g (kt t) v x++[aI P]) (oL P g t (v.ask i n st)):=by
 dsimp only[wL,List.cons_append,List.nil_append];refine aK.pre (vR (k:=kt t) hg hn (.aM (.aM (.aM (.aM (.aM .aN)))))) ?_;refine aK.pre (aB.lB (l:=[aJ g 121 (wC x v.now v.aW.length v.cf v.bU.length v.sub),bZ P gr v.cf n (kt t),aZ x.gw v.ws,own vE x.nA v.bU.length x.nc x.gs]) aC) (aK.post (aK.beside λM hE=>Xw M P g gr x v.now v.aW.length v.cf v.bU.length v.sub n (kt t) v.ws st ho.rK.2 ho.rK.1 (EA ht) hx) ?_);rintro e H' ⟨H1,⟨rfl,rfl⟩,rfl⟩;dsimp only[List.cons_append,List.nil_append];exact⟨[aQ P g (t+1) (v.ask i n st).1,aI P],BZ (t:=t) (v:=v) (v':=(v.ask i n st).1) (Q:=[]) (aCq t) (aAc P).symm hg hn (Bf (d:=2048) sD) (ho.ask i n st) hx rfl rfl rfl aC,[],rfl,by rw[aAc]⟩
theorem LZ(dC:Int):G E 56 [pt g,.int .i64 dC] (wL P g (kt t) v x++[aI P]) (oL P g t (v.qA dC)):=by
 have _:=ht;obtain⟨n,hn⟩:=ho.node (i:=0) (by have:=ho.rK;omega);obtain⟨gr,hg⟩:∃gr,x.gs[0]?=some gr:=⟨_,aAa (by have:=ho.rK;omega)⟩
 have hcm:v.qA dC=(v.Cj 0 (mT n dC).1,(mT n dC).2):=by unfold Wv.qA;rw[hn]
 rw[hcm];dsimp only[wL,List.cons_append,List.nil_append];refine aK.pre (vR (k:=kt t) hg hn (.aM (.aM (.aM (.aM (.aM .aN)))))) ?_;refine aK.pre (aB.lB (l:=[aJ g 121 (wC x v.now v.aW.length v.cf v.bU.length v.sub),bZ P gr v.cf n (kt t),own vE x.nA v.bU.length x.nc x.gs,aI P]) aC) (aK.post (aK.beside λM hE=>Ol M P g gr x v.now v.aW.length v.cf v.bU.length v.sub n (kt t) dC ho.rK.2 ho.rK.1 hg) ?_);rintro e H' ⟨H1,⟨Q,rfl,rfl⟩,rfl⟩;dsimp only[List.cons_append,List.nil_append];exact⟨_,BZ (t:=t) (v:=v) (v':=v.Cj 0 (mT n dC).1) (aCq t) rfl hg hn (show kt t≤kt (t+1) from uX (aCq t)) (ho.Cj 0 _) hx rfl rfl rfl aC,Q,rfl,rfl⟩
theorem SU(hg:x.gs[i]?=some gr)(hn:v.bU[i]?=some n)(r:Int):G E 57 [pt g,pt gr,.int .i64 r] (wL P g (kt t) v x++[aI P]) (oL P g t (v.qD i n r)):=by
 dsimp only[wL,List.cons_append,List.nil_append];refine aK.pre (vR (k:=kt t) hg hn (.aM (.aM (.aM (.aM (.aM .aN)))))) ?_;refine aK.Y1 (l:=O4 P gr v.cf n (kt t)) (p:=λ_:Nh=>n.ok) .aN (λhok=>?_);obtain⟨_,hok⟩:=hok;refine aK.pre (aB.lB (l:=[aJ g 121 (wC x v.now v.aW.length v.cf v.bU.length v.sub),bZ P gr v.cf n (kt t),aZ x.gw v.ws,own mK x.sA v.aW.length x.sc v.aW,aI P]) aC) (aK.post (aK.beside λM hE=>Uh M P g gr x v.now v.cf v.bU.length v.sub n (kt t) v.ws v.aW r (by have:=ho.now;unfold dQ;omega) (EA ht) (by have:=ho.aW;omega)) ?_);rintro e H' ⟨H1,⟨Q,sA,sc,rfl,rfl⟩,rfl⟩;dsimp only[List.cons_append,List.nil_append];exact⟨_,BZ (t:=t) (v:=v) (v':=(v.qD i n r).1) (x':=⟨x.gw,x.gg,sA,sc,x.nA,x.nc,x.gs⟩) (aCq t) rfl hg hn (Bf (d:=2048) sD) (ho.qD i hok r) hx rfl rfl rfl aC,Q,rfl,rfl⟩
theorem Qf(m:Int):G E 58 [pt g,.int .i64 m] (wL P g (kt t) v x++[aI P]) (oL P g t (v.tick m)):=by
 have _:=ht;dsimp only[wL,List.cons_append,List.nil_append];refine aK.pre (aB.lB (l:=[aJ g 121 (wC x v.now v.aW.length v.cf v.bU.length v.sub)]) aC) (aK.post (aK.beside λM hE=>U8 M g x v.now v.aW.length v.cf v.bU.length v.sub m ho.now) ?_);rintro e H' ⟨H1,⟨rfl,rfl⟩,rfl⟩;dsimp only[List.cons_append,List.nil_append];exact⟨[aQ P g (t+1) (v.tick m).1,aI P],Di (t:=t) (v:=v) (v':=(v.tick m).1) (x':=x) (Q:=[]) (aCq t) (aAc P).symm (ho.tick m) hx rfl rfl rfl aC,[],rfl,by rw[aAc]⟩
end
section
variable (E:Env) {P:List Ov} {g:Nat} {t:Nat} {v:Wv} {x:AM} (ho:v.ok t) (hx:x.gs.length=v.bU.length) (ht:t≤1000000)
include ho hx ht
theorem Jl(j:Int):G E 59 [pt g,.int .i64 j] (wL P g (kt t) v x++[aI P]) (oL P g t (v.bV j)):=by
 have hok:=ho.bV j;dsimp only[wL,List.cons_append,List.nil_append];cases hw:xB v.ws j with
 |none =>
  have hd:v.bV j=(v,⟨14,0,0⟩):=by unfold Wv.bV;rw[hw]
  rw[hd] at hok⊢;refine aK.pre (aB.lB (l:=[aJ g 121 (wC x v.now v.aW.length v.cf v.bU.length v.sub),aZ x.gw v.ws]) aC) (aK.post (aK.beside λM hE=>CR M g x v.now v.aW.length v.cf v.bU.length v.sub v.ws j hw) ?_);rintro e H' ⟨H1,⟨rfl,rfl⟩,rfl⟩;dsimp only[List.cons_append,List.nil_append];exact⟨[aQ P g (t+1) v,aI P],Di (t:=t) (v:=v) (v':=v) (x':=x) (Q:=[]) (aCq t) (aAc P).symm hok hx rfl rfl rfl aC,[],rfl,by rw[aAc]⟩
 |some p =>
  have hlen:=PE ho.pk hw;have take (hd:v.bV j=(⟨v.cf,v.now,v.sub,v.aW,cR v.ws j,v.ref,v.app,v.bU⟩,⟨0,0,0⟩)) {R:List aL} (hr:R=[cK x.gg v.ref v.app,own mK x.sA v.aW.length x.sc v.aW,own vE x.nA v.bU.length x.nc x.gs,aO (nP P v.cf (kt t)) (x.gs.zip v.bU),aI P])
    (law:∀M,G M 59 [pt g,.int .i64 j] [aJ g 121 (wC x v.now v.aW.length v.cf v.bU.length v.sub),aZ x.gw v.ws] (cM (.agg (⟨0,0,0⟩:wM).cs.toArray) [aJ g 121 (wC x v.now v.aW.length v.cf v.bU.length v.sub),aZ x.gw (cR v.ws j)])) :
    G E 59 [pt g,.int .i64 j] ([aJ g 121 (wC x v.now v.aW.length v.cf v.bU.length v.sub),aZ x.gw v.ws]++R) (oL P g t (v.bV j)):=by
   rw[hd] at hok⊢;refine aK.post (aK.beside λM hE=>law M) ?_;rintro e H' ⟨H1,⟨rfl,rfl⟩,rfl⟩;subst hr;dsimp only[List.cons_append,List.nil_append];exact⟨[aQ P g (t+1) ⟨v.cf,v.now,v.sub,v.aW,cR v.ws j,v.ref,v.app,v.bU⟩,aI P],Di (t:=t) (v:=v) (x':=x) (Q:=[]) (aCq t) (aAc P).symm hok hx rfl rfl rfl aC,[],rfl,by rw[aAc]⟩
  cases hm:mM p.b with
  |none =>
   refine take (by unfold Wv.bV;rw[hw];dsimp only;rw[hm]) rfl (λM=>DE M g x v.now v.aW.length v.cf v.bU.length v.sub v.ws j p hw hm hlen)
  |some m =>
   by_cases h9:p.to=9
   ·have hd:v.bV j=(⟨v.cf,v.now,v.sub,v.aW,(gG (cR v.ws j) v.ref v.app m).1.1,(gG (cR v.ws j) v.ref v.app m).1.2.1,(gG (cR v.ws j) v.ref v.app m).1.2.2,v.bU⟩,⟨0,(gG (cR v.ws j) v.ref v.app m).2,0⟩):=by unfold Wv.bV;rw[hw];dsimp only;rw[hm];dsimp only;rw[if_pos h9]
    rw[hd] at hok⊢;refine aK.pre (aB.lB (l:=[aJ g 121 (wC x v.now v.aW.length v.cf v.bU.length v.sub),aZ x.gw v.ws,cK x.gg v.ref v.app]) aC) (aK.post (aK.beside λM hE=>aHa M g x v.now v.aW.length v.cf v.bU.length v.sub v.ws j p hw m hm hlen h9 v.ref v.app (by have:=ho.app;omega)) ?_);rintro e H' ⟨H1,⟨rfl,rfl⟩,rfl⟩;dsimp only[List.cons_append,List.nil_append];exact⟨[aQ P g (t+1) ⟨v.cf,v.now,v.sub,v.aW,(gG (cR v.ws j) v.ref v.app m).1.1,(gG (cR v.ws j) v.ref v.app m).1.2.1,(gG (cR v.ws j) v.ref v.app m).1.2.2,v.bU⟩,aI P],Di (t:=t) (v:=v) (x':=x) (Q:=[]) (aCq t) (aAc P).symm hok hx rfl rfl rfl aC,[],rfl,by rw[aAc]⟩
   ·by_cases h0:p.to<0
    ·exact take (by unfold Wv.bV;rw[hw];dsimp only;rw[hm];dsimp only;rw[if_neg h9,if_pos h0]) rfl (λM=>yV M g x v.now v.aW.length v.cf v.bU.length v.sub v.ws j p hw m hm hlen h9 ho.rK.2 ho.rK.1 (.inl h0))
    ·have hto:p.to=(p.to.toNat:Int):=o_;cases hn:v.bU[p.to.toNat]? with
     |none =>
      refine take (by unfold Wv.bV;rw[hw];dsimp only;rw[hm];dsimp only;rw[if_neg h9,if_neg h0,hn]) rfl (λM=>yV M g x v.now v.aW.length v.cf v.bU.length v.sub v.ws j p hw m hm hlen h9 ho.rK.2 ho.rK.1 (.inr ?_));have:=aBx.1 hn;omega
     |some n =>
      obtain⟨gr,hg⟩:∃gr,x.gs[p.to.toNat]?=some gr:=⟨_,aAa (by have:=(aAd.1 hn).1;omega)⟩
      cases hu:n.up with
      |true =>
       have hd:v.bV j=(⟨v.cf,v.now,v.sub,v.aW,(dG (cR v.ws j) n m).1.1,v.ref,v.app,v.bU.set p.to.toNat (dG (cR v.ws j) n m).1.2⟩,(dG (cR v.ws j) n m).2):=by unfold Wv.bV;rw[hw];dsimp only;rw[hm];dsimp only;rw[if_neg h9,if_neg h0,hn];dsimp only;rw[if_pos hu]
       rw[hd] at hok⊢;refine aK.pre (vR (k:=kt t) hg hn (.aM (.aM (.aM (.aM (.aM .aN)))))) ?_;refine aK.pre (aB.lB (l:=[aJ g 121 (wC x v.now v.aW.length v.cf v.bU.length v.sub),bZ P gr v.cf n (kt t),aZ x.gw v.ws,aI P,own vE x.nA v.bU.length x.nc x.gs]) aC) (aK.post (aK.beside λM hE=>E9 M P g gr x v.now v.aW.length v.cf v.bU.length v.sub n (kt t) v.ws j p hw m hm hlen p.to.toNat hto ho.rK.2 hg hu (EA ht)) ?_);rintro e H' ⟨H1,⟨Q,rfl,rfl⟩,rfl⟩;dsimp only[List.cons_append,List.nil_append];exact⟨_,BZ (t:=t) (v:=v) (aCq t) rfl hg hn (Bf (d:=2048) sD) hok hx rfl rfl rfl aC,Q,rfl,rfl⟩
      |false =>
       have hd:v.bV j=(⟨v.cf,v.now,v.sub,v.aW,cR v.ws j,v.ref,v.app,v.bU⟩,⟨0,0,0⟩):=by unfold Wv.bV;rw[hw];dsimp only;rw[hm];dsimp only;rw[if_neg h9,if_neg h0,hn];dsimp only;rw[if_neg (by rw[hu];decide)]
       rw[hd] at hok⊢;refine aK.pre (vR (k:=kt t) hg hn (.aM (.aM (.aM (.aM (.aM .aN)))))) ?_;refine aK.pre (aB.lB (l:=[aJ g 121 (wC x v.now v.aW.length v.cf v.bU.length v.sub),bZ P gr v.cf n (kt t),aZ x.gw v.ws,own vE x.nA v.bU.length x.nc x.gs]) aC) (aK.post (aK.beside λM hE=>Ew M P g gr x v.now v.aW.length v.cf v.bU.length v.sub n (kt t) v.ws j p hw m hm hlen p.to.toNat hto ho.rK.2 hg hu) ?_);rintro e H' ⟨H1,⟨rfl,rfl⟩,rfl⟩;dsimp only[List.cons_append,List.nil_append];refine⟨[aQ P g (t+1) ⟨v.cf,v.now,v.sub,v.aW,cR v.ws j,v.ref,v.app,v.bU⟩,aI P],BZ (t:=t) (v:=v) (Q:=[]) (aCq t) (aAc P).symm hg hn (Int.le_trans (aCd _) (uX (aCq t))) hok hx ?_ rfl rfl aC,[],rfl,by rw[aAc]⟩;exact(mN hn).symm
end
theorem BR{E:Env}{P:List Ov}{g t:Nat}{v:Wv}{x:AM}{H R:List aL}(ho:v.ok t)(hx:x.gs.length=v.bU.length)(hp:cS (wL P g (kt t) v x) H R):aB E H (aQ P g t v::R):=aB.fp (l:=wL P g (kt t) v) (x:=x) ⟨ho,hx⟩ hp
section
variable (E:Env) (P:List Ov) (g:Nat) (t:Nat) (v:Wv)
theorem zT{f:FuncId}{args:Array Value}{R:List aL}{Q:Ending→List aL→Prop}(h:∀x:AM,v.ok t→x.gs.length=v.bU.length→aK prog E f args ([aJ g 121 (wC x v.now v.aW.length v.cf v.bU.length v.sub),aZ x.gw v.ws,cK x.gg v.ref v.app,own mK x.sA v.aW.length x.sc v.aW,own vE x.nA v.bU.length x.nc x.gs,aO (nP P v.cf (kt t)) (x.gs.zip v.bU)]++R) Q):aK prog E f args (aQ P g t v::R) Q :=
 aK.fp .aN λx hx=>h x hx.1 hx.2
theorem xU:G E 66 [pt g] [aQ P g t v] (cM (.agg v.cf.cs.toArray) [aQ P g t v]):=by
 refine zT E P g t v λx ho hx=>?_;have rK:=ho.rK;have his:=λM hb=>Ix M g x v.now v.aW.length v.cf v.bU.length v.sub hb rK.2;rw[decide_eq_true o_] at his;dsimp only[List.cons_append,List.nil_append];refine t_ func66 ntmps66 ?_;repeat first|refine v_ ?_|intro
 refine eV his ?_;repeat first|refine v_ ?_|intro
 exact cI (H':=[aQ P g t v]) (cs:=v.cf.cs) rfl aF rfl rfl rfl aS rfl (aB.trans (BR (x:=x) ho hx aC) aA) ⟨rfl,rfl⟩
theorem CF:G E 26 [pt g] [aQ P g t v] λe H'=>∃g2,e=.returned (pt g2)∧H'=[aZ g2 v.ws,aQ P g t v]:=by
 refine zT E P g t v λx ho hx=>?_;have rK:=ho.rK;have his:=λM hb=>Ix M g x v.now v.aW.length v.cf v.bU.length v.sub hb rK.2;rw[decide_eq_true o_] at his;dsimp only[List.cons_append,List.nil_append];refine t_ func26 ntmps26 ?_;repeat first|refine v_ ?_|intro
 refine eV his ?_;repeat first|refine v_ ?_|intro
 refine bW (λM=>S8 M x.gw v.ws) ?_;rintro e H' ⟨g2,rfl,rfl⟩;repeat first|refine v_ ?_|intro
 exact aR (H':=[aZ g2 v.ws,aQ P g t v]) rfl aF (aB.trans (BR (x:=x) ho hx aC) aA) ⟨g2,rfl,rfl⟩
theorem zZ(ht:t≤1000000):G E 21 [pt g] [aQ P g t v] λe H'=>∃g2,e=.returned (pt g2)∧H'=[cK g2 v.ref v.app,aQ P g t v]:=by
 refine zT E P g t v λx ho hx=>?_;have rK:=ho.rK;have ha:=ho.app;have his:=λM hb=>Ix M g x v.now v.aW.length v.cf v.bU.length v.sub hb rK.2;rw[decide_eq_true o_] at his;dsimp only[List.cons_append,List.nil_append];refine t_ func21 ntmps21 ?_;repeat first|refine v_ ?_|intro
 refine eV his ?_;repeat first|refine v_ ?_|intro
 refine bW (λM=>Qz M x.gg v.ref v.app (by omega)) ?_;rintro e H' ⟨g2,rfl,rfl⟩;repeat first|refine v_ ?_|intro
 exact aR (H':=[cK g2 v.ref v.app,aQ P g t v]) rfl aF (aB.trans (BR (x:=x) ho hx aC) aA) ⟨g2,rfl,rfl⟩
theorem Zj(r:Nat)(n:Nd)(hn:v.bU[r]?=some n):G E 78 [pt g,.int .i64 r] [aQ P g t v] (cM (.bool n.up) [aQ P g t v]):=by
 refine zT E P g t v λx ho hx=>?_;have rK:=ho.rK;obtain⟨gr,hg⟩:∃gr,x.gs[r]?=some gr:=⟨_,aAa (by have:=(aAd.1 hn).1;omega)⟩
 have aty:=λM hb hG=>qW M g x v.now v.aW.length v.cf v.bU.length v.sub r gr hb rK.2 hG hg;dsimp only[List.cons_append,List.nil_append];refine aK.pre (vR (k:=kt t) hg hn (.aM (.aM (.aM (.aM (.aM .aN)))))) ?_;have up:=λM=>TI M P gr v.cf n (kt t);generalize n.up=b at up⊢;refine t_ func78 ntmps78 ?_;repeat first|refine v_ ?_|intro
 refine DY aty ?_;repeat first|refine v_ ?_|intro
 refine bK up ?_;repeat first|refine v_ ?_|intro
 exact aR (H':=[aQ P g t v]) rfl aF (BZ (t:=t) (v:=v) (v':=v) (x':=x) (Q:=[]) (aAf t) (aAc P).symm hg hn (aCd _) ho hx (mN hn).symm rfl rfl aC) ⟨rfl,rfl⟩
end
def wt(p:fD):Nat:=match mM p.b with
 |none=>1
 |some m=>if p.to=9∨m.kind=1 then 2 else 1
def nL(ws:List fD):Nat:=(ws.map wt).sum
theorem IN(p:fD):1≤wt p∧wt p≤2:=by
 unfold wt;split
 ·omega
 split<;>omega
theorem RL(ws:List fD):nL ws≤2*ws.length:=by
 induction ws with
 |nil=>exact aAf _
 |cons p ws ih =>
  have h1:nL (p::ws)=wt p+nL ws:=rfl;have:=(IN p).2;rw[h1,aAs];omega
theorem PR(ws:List fD)(p:fD):nL (ws++[p])=nL ws+wt p:=by unfold nL;simp
theorem OZ{m m':Mg}(h:m.check=0)(h':m'.check=0)(e:m.enc=m'.enc):m.kind=m'.kind:=by
 have s1:=Mg.size h;have s2:=Mg.size h';have f1:=Frm.yY (t:=[]) s1.1 o_;have f2:=Frm.yY (t:=[]) s2.1 o_;rw[aAc] at f1 f2;have e':Frm.fr m.body=Frm.fr m'.body:=e;rw[e',f2] at f1;injection f1 with f1
 injection f1 with f1 _
 have k1:=(Mg.bR h).1;have k2:=(Mg.bR h').1;have g1:m.body[0]?=some (UInt8.ofNat m.kind.toNat):=by unfold Mg.body;simp[fI,be]
 have g2:m'.body[0]?=some (UInt8.ofNat m'.kind.toNat):=by unfold Mg.body;simp[fI,be]
 rw[←f1,g2] at g1;injection g1 with g1
 have g3:=congrArg UInt8.toNat g1;simp only[aEy] at g3;omega
theorem GI{ws:List fD}{m:Mg}(hk:m.kind≠1)(ht:m.check=0→m.to≠9):nL (jW ws m).1≤nL ws+1:=by
 unfold jW;by_cases hc:m.check=0
 ·rw[if_neg (by rw[hc];decide)];show nL (zX ws ⟨m.to,m.enc,false⟩).1≤_;unfold zX;split
  ·exact aCq _
  ·show nL (ws++[_])≤_;rw[PR];have:wt ⟨m.to,m.enc,false⟩=1:=by
    unfold wt;split
    ·rfl
    ·rename_i m' hm;obtain⟨h1,h2,_⟩:=tU hm;have:=OZ h1 hc h2;rw[if_neg];rintro(h|h)
     ·exact ht hc h
     ·exact hk (this.symm.trans h)
   omega
 ·rw[if_pos hc];exact aCq _
theorem V0{m:Mg}(h:(DB m).check=0):(DB m).to≠9:=by
 have h2:=(Mg.bR h).2.1;unfold Mg.nT at h2;rw[if_neg (show ¬(DB m).kind=3 from(by decide:¬(4:Int)=3)),if_pos (show(DB m).kind=4 from rfl)] at h2;simp[wV] at h2;omega
theorem PD(s:Sv)(m:Mg):(lR s m).kind≠1:=by
 unfold lR;split
 ·exact(show(2:Int)≠1 by decide)
 ·exact(show(0:Int)≠1 by decide)
theorem WE{s:Sv}{m:Mg}(h:(lR s m).check=0):(lR s m).to≠9:=by
 have h0:=(Mg.bR h).1;have h2:=(Mg.bR h).2.1;have hk:(lR s m).kind≠3∧(lR s m).kind≠4:=by
  unfold lR;split
  ·exact⟨(show(2:Int)≠3 by decide),(show(2:Int)≠4 by decide)⟩
  ·exact⟨(show(0:Int)≠3 by decide),(show(0:Int)≠4 by decide)⟩
 unfold Mg.nT at h2;rw[if_neg hk.1,if_neg hk.2] at h2;simp[wV] at h2;omega
theorem Ad{v:Wv}{p:fD}{ws:List fD}(h:v.ws=p::ws):nL (v.bV 0).1.ws<nL v.ws:=by
 have hw:xB v.ws 0=some p:=by rw[h];rfl
 have htk:cR v.ws 0=ws:=by rw[h];rfl
 have hs:nL v.ws=wt p+nL ws:=by rw[h];rfl
 have hp:=(IN p).1;unfold Wv.bV;rw[hw];dsimp only;rw[htk];cases hm:mM p.b with
 |none=>show nL ws<_;omega
 |some m =>
  dsimp only;by_cases h9:p.to=9
  ·rw[if_pos h9];have h2:wt p=2:=by unfold wt;rw[hm];exact if_pos (.inl h9)
   show nL (gG ws v.ref v.app m).1.1<_;unfold gG;split
   ·have:=GI (ws:=ws) (m:=DB m) (show(4:Int)≠1 by decide) V0;show nL (jW ws (DB m)).1<_;omega
   ·show nL ws<_;omega
  ·rw[if_neg h9];split
   ·show nL ws<_;omega
   split
   ·show nL ws<_;omega
   split
   ·rename_i n _ _;show nL (dG ws n m).1.1<_;unfold dG;split
    ·rename_i hk;have h2:wt p=2:=by unfold wt;rw[hm];exact if_pos (.inr hk)
     split
     ·show nL ws<_;omega
     ·have:=GI (ws:=ws) (m:=lR n.sync.1.s m) (PD _ _) WE;show nL (jW ws (lR n.sync.1.s m)).1<_;omega
    split
    ·show nL ws<_;omega
    split
    ·show nL ws<_;omega
    ·show nL ws<_;omega
   ·show nL ws<_;omega
noncomputable def Wv.run(v:Wv)(l:List cH):Wv:=l.foldl (λv st=>(v.step st).1) v
structure Dv where
 w:Wv
 short:Bool
noncomputable def Dv.pE(d:Dv)(st:cH):Dv:=⟨(d.w.step st).1,d.short||(!decide (st.kind=15)&&decide ((d.w.step st).2.code=10))⟩
noncomputable def Dv.J1(d:Dv)(l:List cH):Dv:=l.foldl Dv.pE d
noncomputable def AW(f:Nat→List cH):Nat→Nat→Dv→Dv
 |_,0,d=>d
 |r,k+1,d=>AW f (r+1) k (d.J1 (f r))
noncomputable def Dv.all(d:Dv)(i:Nat)(f:Nat→List cH):Dv:=AW f i (d.w.bU.length - i) d
def pB(kind r i n:Int):cH:=⟨kind,r,i,n,mW⟩
noncomputable def nJ:Nat→Dv→Nat→Dv×Nat
 |0,d,n=>(d,n)
 |k+1,d,n=>match d.w.ws with
  | []=>(d,n)
  |_::_=>nJ k (d.pE (pB 7 0 0 0)) (n+1)
noncomputable def Dv.bV(d:Dv):Dv:=(nJ (nL d.w.ws) d 0).1
def pH(kind:Int)(r:Nat):List cH:=[pB kind r 0 0]
def AK(r:Nat):List cH:=[pB 3 r 0 0]
def EH(r:Nat):List cH:=[pB 3 r 0 0,pB 3 0 r 0]
noncomputable def Wv.round(v:Wv):Dv :=
 (((((((((Dv.mk v false).bV.all 0 (pH 15)).all 1 EH).bV).pE (pB 4 0 0 16)).all 1 AK).bV).all 0 (pH 5)).bV).pE (pB 6 0 0 v.cf.cap)
noncomputable def Wv.state(v:Wv)(r:Nat):Sv:=match v.bU[r]? with
 |some n=>n.state
 |none=>Qb 0
def Wv.up(v:Wv)(r:Nat):Bool:=match v.bU[r]? with
 |some n=>n.up
 |none=>false
noncomputable def vY(v:Wv):Nat→Nat→Bool
 |_,0=>true
 |r,k+1=>if v.up r∧(v.state r).quiet=true∧(v.state r).v.l=(v.state 0).v.l then vY v (r+1) k else false
noncomputable def Wv.quiet(v:Wv):Bool:=match v.ws with
 | []=>vY v 0 v.bU.length
 |_::_=>false
noncomputable def xY:Nat→Wv→Bool→Nat→Wv×Nat×Bool
 |0,v,sh,n=>(v,n,sh)
 |k+1,v,sh,n=>if v.quiet then(v,n,sh) else xY k v.round.w (v.round.short||sh) (n+1)
noncomputable def Wv.start(v:Wv):Wv:=((((Dv.mk v false).pE (pB 11 0 0 0)).all 0 (pH 14)).all 0 (pH 13)).w
noncomputable def Wv.fair(v:Wv)(k:Nat):Wv×Nat×Bool:=xY k v.start false 0
theorem IK(v:Wv)(i:Int):(v.bV i).1.cf=v.cf∧(v.bV i).1.bU.length=v.bU.length:=by
 unfold Wv.bV;split
 ·exact⟨rfl,rfl⟩
 split
 ·exact⟨rfl,rfl⟩
 split
 ·exact⟨rfl,rfl⟩
 split
 ·exact⟨rfl,rfl⟩
 split
 ·exact⟨rfl,rfl⟩
 split
 ·exact⟨rfl,aAt ..⟩
 ·exact⟨rfl,rfl⟩
theorem L6(v:Wv)(i:Int):(v.qA i).1.cf=v.cf∧(v.qA i).1.bU.length=v.bU.length:=by
 unfold Wv.qA;split
 ·exact⟨rfl,rfl⟩
 ·exact⟨rfl,aAt ..⟩
theorem Eg(v:Wv)(st:cH):(v.step st).1.cf=v.cf∧(v.step st).1.bU.length=v.bU.length:=by
 unfold Wv.step;split
 ·exact⟨rfl,rfl⟩
 split
 ·exact⟨rfl,rfl⟩
 unfold Wv.SB;split
 ·exact⟨rfl,aAt ..⟩
 split
 ·exact⟨rfl,aAt ..⟩
 split
 ·exact⟨rfl,aAt ..⟩
 split
 ·exact L6 v _
 split
 ·exact⟨rfl,aAt ..⟩
 split
 ·exact⟨rfl,rfl⟩
 split
 ·exact IK v _
 split
 ·exact⟨rfl,rfl⟩
 ·exact⟨rfl,aAt ..⟩
theorem oY(d:Dv)(st:cH):(d.pE st).w.cf=d.w.cf∧(d.pE st).w.bU.length=d.w.bU.length:=Eg d.w st
theorem Ck:∀(l:List cH) (d:Dv),(d.J1 l).w.cf=d.w.cf∧(d.J1 l).w.bU.length=d.w.bU.length
 | [],_=>⟨rfl,rfl⟩
 |st::l,d=>⟨(Ck l (d.pE st)).1.trans (oY d st).1,(Ck l (d.pE st)).2.trans (oY d st).2⟩
theorem Ce(f:Nat→List cH):∀(k r:Nat) (d:Dv),(AW f r k d).w.cf=d.w.cf∧(AW f r k d).w.bU.length=d.w.bU.length
 |0,_,_=>⟨rfl,rfl⟩
 |k+1,r,d=>⟨(Ce f k (r+1) _).1.trans (Ck _ d).1,(Ce f k (r+1) _).2.trans (Ck _ d).2⟩
theorem oZ(d:Dv)(i:Nat)(f:Nat→List cH):(d.all i f).w.cf=d.w.cf∧(d.all i f).w.bU.length=d.w.bU.length:=Ce f _ _ d
theorem Cd:∀(k:Nat) (d:Dv) (n:Nat),(nJ k d n).1.w.cf=d.w.cf∧(nJ k d n).1.w.bU.length=d.w.bU.length
 |0,_,_=>⟨rfl,rfl⟩
 |k+1,d,n=>by
  unfold nJ;split
  ·exact⟨rfl,rfl⟩
  ·exact⟨(Cd k _ _).1.trans (oY d _).1,(Cd k _ _).2.trans (oY d _).2⟩
theorem uC(d:Dv):d.bV.w.cf=d.w.cf∧d.bV.w.bU.length=d.w.bU.length:=Cd _ d 0
def gU(N k:Nat):List Nd:=(List.range k).map λ(r:Nat)=>Nd.new (r:Int) N
theorem Fa(N k:Nat):gU N (k+1)=gU N k++[Nd.new k N]:=by unfold gU;rw[List.range_succ,aBk];rfl
theorem rX(N k:Nat):(gU N k).length=k:=by unfold gU;rw[aAw,aFu]
abbrev Wv.new(cf:fU):Wv:=⟨cf,0,0,[],[],0,[],gU cf.eF.toNat cf.bN.toNat⟩
theorem Wv.VX{cf:fU}(h:cf.cV):(Wv.new cf).ok 1 :=
 ⟨h,by show((gU _ _).length:Int)=cf.bN;rw[rX];have:=h.1;omega,⟨aCd _,by show(0:Int)≤_;omega⟩,⟨aCd _,by show(0:Int)≤_;omega⟩,aAh _,aAh _,⟨λp hp=>(aAk hp).elim,aAh _⟩⟩
section
variable (E:Env) (P:List Ov)
theorem No(cf:fU)(hf:¬cf.cV):G E 8 [.agg cf.cs.toArray] [] (cM (.tuple #[.pointer none,.int .i64 6]) []):=by
 have sO:=λM=>KC M cf;rw[if_neg hf] at sO;refine t_ func8 ntmps8 ?_;repeat first|refine v_ ?_|intro
 refine bK sO ?_;repeat first|refine v_ ?_|intro
 exact Xs
end
end Go.Proofs.YtmilalkjbojciaaGreat.Sep
